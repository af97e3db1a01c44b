/- Printed by a program (prx.py). -/
import Derived.Test.YtdllacjkacmghaaDoorDTx0
import Derived.Test.YtdllacjkacmghaaDoorDTx1
import Derived.Test.YtdllacjkacmghaaDoorDTx3
import Derived.Test.YtdllacjkacmghaaDoorDTx8
import Derived.Test.YtdllacjkacmghaaDoorDTx13
namespace Go.Proofs.YtdllacjkacmghaaDoor.DT
open Go.Proofs.YtdllacjkacmghaaDoorD Go.Proofs.YtdllacjkacmghaaDoorK
open Go.RowKit Go.Proofs.YtdllacjkacmghaaDoorW.PrintWords Go.Proofs.YtdllacjkacmghaaDoorW.PrintLast Go.Proofs.YtdllacjkacmghaaDoorW.PrintMore
attribute [local go_sem] max2_int min2_int max_two min_two max_three min_three max_four min_four   -- for this text's walks alone
set_option linter.unusedVariables false
set_option linter.unusedSimpArgs false

/-! ### skewbaldlaw07_DappleClash: function 15 -/
mutual
def skewbaldlaw07_DappleClash.j0 : Nat → Int → Int → Int → Int → Int → Int → Bool → Int → List (List Int) → Int → Int → Option (Bool)
 | 0, _, _, _, _, _, _, _, _, _, _, _ => none
 | k + 1, x5, x6, x7, x8, x9, x10, x79, x675000, x675001, x676000, x676001 => if x79 = true then (some false) else ((skewbaldlaw07_kinds.f k x675000 x675001).bind fun t684 => (if (t684.length : Int) = (x675001.length : Int) then (if x7 = 0 then ((skewbaldref00_In.f x5 0 (wrap64 (x6 - 1))).bind fun t687 => (if t687 = true then (if x6 ≥ (t684.length : Int) then (skewbaldlaw07_DappleClash.j1 k x5 x6 x7 x8 x9 x10 t684 true x675000 x675001 x676000 x676001) else (if 0 ≤ x5 then (if x5 < (t684.length : Int) then (if 0 ≤ x6 then (if x6 < ((rd_L1 t684 x5).length : Int) then (if (rd (rd_L1 t684 x5) x6) < 1 then (skewbaldlaw07_DappleClash.j1 k x5 x6 x7 x8 x9 x10 t684 true x675000 x675001 x676000 x676001) else (if x10 = 0 then ((skewbaldref00_In.f x8 0 (wrap64 (x9 - 1))).bind fun t690 => (if t690 = true then (if x9 ≥ (t684.length : Int) then (skewbaldlaw07_DappleClash.j1 k x5 x6 x7 x8 x9 x10 t684 true x675000 x675001 x676000 x676001) else (if 0 ≤ x8 then (if x8 < (t684.length : Int) then (if 0 ≤ x9 then (if x9 < ((rd_L1 t684 x8).length : Int) then (skewbaldlaw07_DappleClash.j1 k x5 x6 x7 x8 x9 x10 t684 ((rd (rd_L1 t684 x8) x9) != 2) x675000 x675001 x676000 x676001) else (none)) else (none)) else (none)) else (none))) else (skewbaldlaw07_DappleClash.j1 k x5 x6 x7 x8 x9 x10 t684 true x675000 x675001 x676000 x676001))) else (skewbaldlaw07_DappleClash.j1 k x5 x6 x7 x8 x9 x10 t684 false x675000 x675001 x676000 x676001))) else (none)) else (none)) else (none)) else (none))) else (skewbaldlaw07_DappleClash.j1 k x5 x6 x7 x8 x9 x10 t684 true x675000 x675001 x676000 x676001))) else (if x10 = 0 then ((skewbaldref00_In.f x8 0 (wrap64 (x9 - 1))).bind fun t693 => (if t693 = true then (if x9 ≥ (t684.length : Int) then (skewbaldlaw07_DappleClash.j1 k x5 x6 x7 x8 x9 x10 t684 true x675000 x675001 x676000 x676001) else (if 0 ≤ x8 then (if x8 < (t684.length : Int) then (if 0 ≤ x9 then (if x9 < ((rd_L1 t684 x8).length : Int) then (skewbaldlaw07_DappleClash.j1 k x5 x6 x7 x8 x9 x10 t684 ((rd (rd_L1 t684 x8) x9) != 2) x675000 x675001 x676000 x676001) else (none)) else (none)) else (none)) else (none))) else (skewbaldlaw07_DappleClash.j1 k x5 x6 x7 x8 x9 x10 t684 true x675000 x675001 x676000 x676001))) else (skewbaldlaw07_DappleClash.j1 k x5 x6 x7 x8 x9 x10 t684 false x675000 x675001 x676000 x676001))) else (some false)))
def skewbaldlaw07_DappleClash.j1 : Nat → Int → Int → Int → Int → Int → Int → List (List Int) → Bool → Int → List (List Int) → Int → Int → Option (Bool)
 | 0, _, _, _, _, _, _, _, _, _, _, _, _ => none
 | k + 1, x5, x6, x7, x8, x9, x10, x11, x139, x675000, x675001, x676000, x676001 => if x139 = true then (some false) else (if (x11.length : Int) < 2 then (if x7 = 4 then ((skewbaldlaw07_pressed.f k).bind fun t696 => (some t696)) else (some false)) else ((skewbaldlaw07_two.f x675000 x675001 x676000 x676001).bind fun bt697 => (if 0 ≤ (mn bt697.1 bt697.2) then (if (mn bt697.1 bt697.2) < (x11.length : Int) then (if 0 ≤ (mx bt697.1 bt697.2) then (if (mx bt697.1 bt697.2) < ((rd_L1 x11 (mn bt697.1 bt697.2)).length : Int) then (if (rd (rd_L1 x11 (mn bt697.1 bt697.2)) (mx bt697.1 bt697.2)) > 0 then (if x7 = 0 then (if x5 > (mn bt697.1 bt697.2) then (some false) else (if x5 = (mn bt697.1 bt697.2) then (if x6 > (mx bt697.1 bt697.2) then (some false) else (if (rd (rd_L1 x11 (mn bt697.1 bt697.2)) (mx bt697.1 bt697.2)) = 2 then (if x10 = 0 then (if x8 > (mn bt697.1 bt697.2) then (some false) else (if x8 = (mn bt697.1 bt697.2) then (if x9 > (mx bt697.1 bt697.2) then (some false) else ((skewbaldlaw07_pressed.f k).bind fun t703 => (some t703))) else ((skewbaldlaw07_pressed.f k).bind fun t704 => (some t704)))) else (some false)) else ((skewbaldlaw07_pressed.f k).bind fun t705 => (some t705)))) else (if (rd (rd_L1 x11 (mn bt697.1 bt697.2)) (mx bt697.1 bt697.2)) = 2 then (if x10 = 0 then (if x8 > (mn bt697.1 bt697.2) then (some false) else (if x8 = (mn bt697.1 bt697.2) then (if x9 > (mx bt697.1 bt697.2) then (some false) else ((skewbaldlaw07_pressed.f k).bind fun t708 => (some t708))) else ((skewbaldlaw07_pressed.f k).bind fun t709 => (some t709)))) else (some false)) else ((skewbaldlaw07_pressed.f k).bind fun t710 => (some t710))))) else (some false)) else (if (rd (rd_L1 x11 (mn bt697.1 bt697.2)) (mx bt697.1 bt697.2)) = 2 then (if x10 = 0 then (if x8 > (mn bt697.1 bt697.2) then (some false) else (if x8 = (mn bt697.1 bt697.2) then (if x9 > (mx bt697.1 bt697.2) then (some false) else ((skewbaldlaw07_pressed.f k).bind fun t713 => (some t713))) else ((skewbaldlaw07_pressed.f k).bind fun t714 => (some t714)))) else (some false)) else ((skewbaldlaw07_pressed.f k).bind fun t715 => (some t715)))) else (none)) else (none)) else (none)) else (none))))
end
def skewbaldlaw07_DappleClash.f (k : Nat) (a0_0 : Int) (l0_1 : List (List Int)) (a1_0 : Int) (a1_1 : Int) : Option (Bool) := (dapple_Clash.f a0_0 l0_1).bind fun bt676 => ((dapple_Sure.f a0_0 l0_1).bind fun bt679 => ((skewbaldlaw07_sound.f k a0_0 l0_1).bind fun t682 => (if t682 = true then (if bt676.2.2 = 0 then (if bt679.2.2 = 0 then (skewbaldlaw07_DappleClash.j0 k bt676.1 bt676.2.1 bt676.2.2 bt679.1 bt679.2.1 bt679.2.2 false a0_0 l0_1 a1_0 a1_1) else (if bt679.2.2 = 4 then (skewbaldlaw07_DappleClash.j0 k bt676.1 bt676.2.1 bt676.2.2 bt679.1 bt679.2.1 bt679.2.2 ((wrap64 (bt679.1 + bt679.2.1)) != 0) a0_0 l0_1 a1_0 a1_1) else (skewbaldlaw07_DappleClash.j0 k bt676.1 bt676.2.1 bt676.2.2 bt679.1 bt679.2.1 bt679.2.2 true a0_0 l0_1 a1_0 a1_1))) else (if bt676.2.2 = 4 then (if (wrap64 (bt676.1 + bt676.2.1)) = 0 then (if bt679.2.2 = bt676.2.2 then (if bt679.2.2 = 0 then (skewbaldlaw07_DappleClash.j0 k bt676.1 bt676.2.1 bt676.2.2 bt679.1 bt679.2.1 bt679.2.2 false a0_0 l0_1 a1_0 a1_1) else (if bt679.2.2 = 4 then (skewbaldlaw07_DappleClash.j0 k bt676.1 bt676.2.1 bt676.2.2 bt679.1 bt679.2.1 bt679.2.2 ((wrap64 (bt679.1 + bt679.2.1)) != 0) a0_0 l0_1 a1_0 a1_1) else (skewbaldlaw07_DappleClash.j0 k bt676.1 bt676.2.1 bt676.2.2 bt679.1 bt679.2.1 bt679.2.2 true a0_0 l0_1 a1_0 a1_1))) else (skewbaldlaw07_DappleClash.j0 k bt676.1 bt676.2.1 bt676.2.2 bt679.1 bt679.2.1 bt679.2.2 true a0_0 l0_1 a1_0 a1_1)) else (skewbaldlaw07_DappleClash.j0 k bt676.1 bt676.2.1 bt676.2.2 bt679.1 bt679.2.1 bt679.2.2 true a0_0 l0_1 a1_0 a1_1)) else (skewbaldlaw07_DappleClash.j0 k bt676.1 bt676.2.1 bt676.2.2 bt679.1 bt679.2.1 bt679.2.2 true a0_0 l0_1 a1_0 a1_1))) else (if bt676.2.2 = 70 then (if bt679.2.2 = bt676.2.2 then (if (wrap64 ((wrap64 ((wrap64 (bt676.1 + bt676.2.1)) + bt679.1)) + bt679.2.1)) = 0 then ((skewbaldlaw07_pressed.f k).bind fun t683 => (some t683)) else (some false)) else (some false)) else (some false)))))
set_option maxHeartbeats 8000000 in
set_option maxRecDepth 100000 in
theorem skewbaldlaw07_DappleClash.calls (k : Nat) (a0_0 : Int) (A0_1 : Option Addr) (c0_1 : Nat) (l0_1 : List (List Int)) (a1_0 : Int) (a1_1 : Int) (w : World) (hr0_1 : Kd.C (Kd.slice 3 (Kd.int .i64)) w A0_1 l0_1.length l0_1) (hc0_1 : l0_1.length ≤ c0_1) (hG : Glob w) (h : skewbaldlaw07_DappleClash.f k a0_0 l0_1 a1_0 a1_1 = some true) :
  Calls Tryd.prog 15 #[.agg #[.int .i64 a0_0, .slice A0_1 l0_1.length c0_1], .agg #[.int .i64 a1_0, .int .i64 a1_1]] w fun e w' => e = .returned (.bool true) ∧ Below w.heap.size w w' := by
 have hu24 := Tryd.underlying24
 have hu25 := Tryd.underlying25
 have HR0_1 := Aside0.mk hr0_1
 have HC0_1 := Aside0.mk hc0_1
 clear hr0_1 hc0_1
 have HGL := Aside0.mk hG
 clear hG
 have HB := Aside0.mk (Below.refl w.heap.size w)
 have H : ((dapple_Clash.f a0_0 l0_1).bind fun bt676 => ((dapple_Sure.f a0_0 l0_1).bind fun bt679 => ((skewbaldlaw07_sound.f k a0_0 l0_1).bind fun t682 => (if t682 = true then (if bt676.2.2 = 0 then (if bt679.2.2 = 0 then (skewbaldlaw07_DappleClash.j0 k bt676.1 bt676.2.1 bt676.2.2 bt679.1 bt679.2.1 bt679.2.2 false a0_0 l0_1 a1_0 a1_1) else (if bt679.2.2 = 4 then (skewbaldlaw07_DappleClash.j0 k bt676.1 bt676.2.1 bt676.2.2 bt679.1 bt679.2.1 bt679.2.2 ((wrap64 (bt679.1 + bt679.2.1)) != 0) a0_0 l0_1 a1_0 a1_1) else (skewbaldlaw07_DappleClash.j0 k bt676.1 bt676.2.1 bt676.2.2 bt679.1 bt679.2.1 bt679.2.2 true a0_0 l0_1 a1_0 a1_1))) else (if bt676.2.2 = 4 then (if (wrap64 (bt676.1 + bt676.2.1)) = 0 then (if bt679.2.2 = bt676.2.2 then (if bt679.2.2 = 0 then (skewbaldlaw07_DappleClash.j0 k bt676.1 bt676.2.1 bt676.2.2 bt679.1 bt679.2.1 bt679.2.2 false a0_0 l0_1 a1_0 a1_1) else (if bt679.2.2 = 4 then (skewbaldlaw07_DappleClash.j0 k bt676.1 bt676.2.1 bt676.2.2 bt679.1 bt679.2.1 bt679.2.2 ((wrap64 (bt679.1 + bt679.2.1)) != 0) a0_0 l0_1 a1_0 a1_1) else (skewbaldlaw07_DappleClash.j0 k bt676.1 bt676.2.1 bt676.2.2 bt679.1 bt679.2.1 bt679.2.2 true a0_0 l0_1 a1_0 a1_1))) else (skewbaldlaw07_DappleClash.j0 k bt676.1 bt676.2.1 bt676.2.2 bt679.1 bt679.2.1 bt679.2.2 true a0_0 l0_1 a1_0 a1_1)) else (skewbaldlaw07_DappleClash.j0 k bt676.1 bt676.2.1 bt676.2.2 bt679.1 bt679.2.1 bt679.2.2 true a0_0 l0_1 a1_0 a1_1)) else (skewbaldlaw07_DappleClash.j0 k bt676.1 bt676.2.1 bt676.2.2 bt679.1 bt679.2.1 bt679.2.2 true a0_0 l0_1 a1_0 a1_1))) else (if bt676.2.2 = 70 then (if bt679.2.2 = bt676.2.2 then (if (wrap64 ((wrap64 ((wrap64 (bt676.1 + bt676.2.1)) + bt679.1)) + bt679.2.1)) = 0 then ((skewbaldlaw07_pressed.f k).bind fun t683 => (some t683)) else (some false)) else (some false)) else (some false)))))) = some true := h
 clear h
 replace H := Option.bind_eq_some_iff.mp H
 obtain ⟨⟨t676, t677, t678⟩, A30, H⟩ := H
 replace H : ((dapple_Sure.f a0_0 l0_1).bind fun bt679 => ((skewbaldlaw07_sound.f k a0_0 l0_1).bind fun t682 => (if t682 = true then (if t678 = 0 then (if bt679.2.2 = 0 then (skewbaldlaw07_DappleClash.j0 k t676 t677 t678 bt679.1 bt679.2.1 bt679.2.2 false a0_0 l0_1 a1_0 a1_1) else (if bt679.2.2 = 4 then (skewbaldlaw07_DappleClash.j0 k t676 t677 t678 bt679.1 bt679.2.1 bt679.2.2 ((wrap64 (bt679.1 + bt679.2.1)) != 0) a0_0 l0_1 a1_0 a1_1) else (skewbaldlaw07_DappleClash.j0 k t676 t677 t678 bt679.1 bt679.2.1 bt679.2.2 true a0_0 l0_1 a1_0 a1_1))) else (if t678 = 4 then (if (wrap64 (t676 + t677)) = 0 then (if bt679.2.2 = t678 then (if bt679.2.2 = 0 then (skewbaldlaw07_DappleClash.j0 k t676 t677 t678 bt679.1 bt679.2.1 bt679.2.2 false a0_0 l0_1 a1_0 a1_1) else (if bt679.2.2 = 4 then (skewbaldlaw07_DappleClash.j0 k t676 t677 t678 bt679.1 bt679.2.1 bt679.2.2 ((wrap64 (bt679.1 + bt679.2.1)) != 0) a0_0 l0_1 a1_0 a1_1) else (skewbaldlaw07_DappleClash.j0 k t676 t677 t678 bt679.1 bt679.2.1 bt679.2.2 true a0_0 l0_1 a1_0 a1_1))) else (skewbaldlaw07_DappleClash.j0 k t676 t677 t678 bt679.1 bt679.2.1 bt679.2.2 true a0_0 l0_1 a1_0 a1_1)) else (skewbaldlaw07_DappleClash.j0 k t676 t677 t678 bt679.1 bt679.2.1 bt679.2.2 true a0_0 l0_1 a1_0 a1_1)) else (skewbaldlaw07_DappleClash.j0 k t676 t677 t678 bt679.1 bt679.2.1 bt679.2.2 true a0_0 l0_1 a1_0 a1_1))) else (if t678 = 70 then (if bt679.2.2 = t678 then (if (wrap64 ((wrap64 ((wrap64 (t676 + t677)) + bt679.1)) + bt679.2.1)) = 0 then ((skewbaldlaw07_pressed.f k).bind fun t683 => (some t683)) else (some false)) else (some false)) else (some false))))) = some true := H
 have A3 := Aside0.mk A30
 clear A30
 replace H := Option.bind_eq_some_iff.mp H
 obtain ⟨⟨t679, t680, t681⟩, A40, H⟩ := H
 replace H : ((skewbaldlaw07_sound.f k a0_0 l0_1).bind fun t682 => (if t682 = true then (if t678 = 0 then (if t681 = 0 then (skewbaldlaw07_DappleClash.j0 k t676 t677 t678 t679 t680 t681 false a0_0 l0_1 a1_0 a1_1) else (if t681 = 4 then (skewbaldlaw07_DappleClash.j0 k t676 t677 t678 t679 t680 t681 ((wrap64 (t679 + t680)) != 0) a0_0 l0_1 a1_0 a1_1) else (skewbaldlaw07_DappleClash.j0 k t676 t677 t678 t679 t680 t681 true a0_0 l0_1 a1_0 a1_1))) else (if t678 = 4 then (if (wrap64 (t676 + t677)) = 0 then (if t681 = t678 then (if t681 = 0 then (skewbaldlaw07_DappleClash.j0 k t676 t677 t678 t679 t680 t681 false a0_0 l0_1 a1_0 a1_1) else (if t681 = 4 then (skewbaldlaw07_DappleClash.j0 k t676 t677 t678 t679 t680 t681 ((wrap64 (t679 + t680)) != 0) a0_0 l0_1 a1_0 a1_1) else (skewbaldlaw07_DappleClash.j0 k t676 t677 t678 t679 t680 t681 true a0_0 l0_1 a1_0 a1_1))) else (skewbaldlaw07_DappleClash.j0 k t676 t677 t678 t679 t680 t681 true a0_0 l0_1 a1_0 a1_1)) else (skewbaldlaw07_DappleClash.j0 k t676 t677 t678 t679 t680 t681 true a0_0 l0_1 a1_0 a1_1)) else (skewbaldlaw07_DappleClash.j0 k t676 t677 t678 t679 t680 t681 true a0_0 l0_1 a1_0 a1_1))) else (if t678 = 70 then (if t681 = t678 then (if (wrap64 ((wrap64 ((wrap64 (t676 + t677)) + t679)) + t680)) = 0 then ((skewbaldlaw07_pressed.f k).bind fun t683 => (some t683)) else (some false)) else (some false)) else (some false)))) = some true := H
 have A4 := Aside0.mk A40
 clear A40
 replace H := Option.bind_eq_some_iff.mp H
 obtain ⟨t682, A50, H⟩ := H
 replace H : (if t682 = true then (if t678 = 0 then (if t681 = 0 then (skewbaldlaw07_DappleClash.j0 k t676 t677 t678 t679 t680 t681 false a0_0 l0_1 a1_0 a1_1) else (if t681 = 4 then (skewbaldlaw07_DappleClash.j0 k t676 t677 t678 t679 t680 t681 ((wrap64 (t679 + t680)) != 0) a0_0 l0_1 a1_0 a1_1) else (skewbaldlaw07_DappleClash.j0 k t676 t677 t678 t679 t680 t681 true a0_0 l0_1 a1_0 a1_1))) else (if t678 = 4 then (if (wrap64 (t676 + t677)) = 0 then (if t681 = t678 then (if t681 = 0 then (skewbaldlaw07_DappleClash.j0 k t676 t677 t678 t679 t680 t681 false a0_0 l0_1 a1_0 a1_1) else (if t681 = 4 then (skewbaldlaw07_DappleClash.j0 k t676 t677 t678 t679 t680 t681 ((wrap64 (t679 + t680)) != 0) a0_0 l0_1 a1_0 a1_1) else (skewbaldlaw07_DappleClash.j0 k t676 t677 t678 t679 t680 t681 true a0_0 l0_1 a1_0 a1_1))) else (skewbaldlaw07_DappleClash.j0 k t676 t677 t678 t679 t680 t681 true a0_0 l0_1 a1_0 a1_1)) else (skewbaldlaw07_DappleClash.j0 k t676 t677 t678 t679 t680 t681 true a0_0 l0_1 a1_0 a1_1)) else (skewbaldlaw07_DappleClash.j0 k t676 t677 t678 t679 t680 t681 true a0_0 l0_1 a1_0 a1_1))) else (if t678 = 70 then (if t681 = t678 then (if (wrap64 ((wrap64 ((wrap64 (t676 + t677)) + t679)) + t680)) = 0 then ((skewbaldlaw07_pressed.f k).bind fun t683 => (some t683)) else (some false)) else (some false)) else (some false))) = some true := H
 have A5 := Aside0.mk A50
 clear A50
 by_cases c6 : t682 = true
 ·subst c6
  have H1 : (if t678 = 0 then (if t681 = 0 then (skewbaldlaw07_DappleClash.j0 k t676 t677 t678 t679 t680 t681 false a0_0 l0_1 a1_0 a1_1) else (if t681 = 4 then (skewbaldlaw07_DappleClash.j0 k t676 t677 t678 t679 t680 t681 ((wrap64 (t679 + t680)) != 0) a0_0 l0_1 a1_0 a1_1) else (skewbaldlaw07_DappleClash.j0 k t676 t677 t678 t679 t680 t681 true a0_0 l0_1 a1_0 a1_1))) else (if t678 = 4 then (if (wrap64 (t676 + t677)) = 0 then (if t681 = t678 then (if t681 = 0 then (skewbaldlaw07_DappleClash.j0 k t676 t677 t678 t679 t680 t681 false a0_0 l0_1 a1_0 a1_1) else (if t681 = 4 then (skewbaldlaw07_DappleClash.j0 k t676 t677 t678 t679 t680 t681 ((wrap64 (t679 + t680)) != 0) a0_0 l0_1 a1_0 a1_1) else (skewbaldlaw07_DappleClash.j0 k t676 t677 t678 t679 t680 t681 true a0_0 l0_1 a1_0 a1_1))) else (skewbaldlaw07_DappleClash.j0 k t676 t677 t678 t679 t680 t681 true a0_0 l0_1 a1_0 a1_1)) else (skewbaldlaw07_DappleClash.j0 k t676 t677 t678 t679 t680 t681 true a0_0 l0_1 a1_0 a1_1)) else (skewbaldlaw07_DappleClash.j0 k t676 t677 t678 t679 t680 t681 true a0_0 l0_1 a1_0 a1_1))) = some true := by rw [if_pos rfl] at H; exact H
  clear H
  have H := H1
  clear H1
  have HC7 := Aside0.mk H
  clear H
  go_enter Tryd.func15, Tryd.ntmps15
  go_upto_region 5 with (first | ((with_reducible refine gate_dst (N := 2) rfl ?_); (try (refine gate_guard (by rfl) ?_; dsimp only)); refine box_event ?hg (N := 2) ?hd (cs := #[.int .i64 a0_0, .slice A0_1 l0_1.length c0_1]) (t := 24) ?hr ?_; (case hd => rfl); (case hg => rfl); (case hr => first | (go_simp; done) | (go_simp; rfl)); intro gb674 hg w8 hbox hb; have n0_ := Aside0.mk (below_step (by repeat (first | (with_reducible first | exact HB.out | apply below_alloc | apply pw_below_drewN | apply below_drew1) | exact HB.out)) hb); have n1_ := Aside0.mk (hbox); have n2_ := Aside0.mk ((by rw [hg]; exact (below_size (by repeat (first | (with_reducible first | exact HB.out | apply below_alloc | apply pw_below_drewN | apply below_drew1) | exact HB.out))) : w.heap.size ≤ gb674)); have n3_ := Aside0.mk ((by rw [hg]; exact (below_size (by repeat (first | (with_reducible first | exact HB.out | apply below_alloc | apply pw_below_drewN | apply below_drew1) | exact HB.out))) : w.heap.size ≤ gb674)); clear HB; have HB := n0_; have BK674 := n1_; have GW674 := n2_; have GE674 := n3_; clear n0_ n1_ n2_ n3_; clear hb hbox hg) | ((with_reducible refine gate_dst (N := 3) rfl ?_); (try (refine gate_guard (by rfl) ?_; dsimp only)); refine box_event ?hg (N := 3) ?hd (cs := #[.int .i64 a1_0, .int .i64 a1_1]) (t := 25) ?hr ?_; (case hd => rfl); (case hg => rfl); (case hr => first | (go_simp; done) | (go_simp; rfl)); intro gb675 hg w9 hbox hb; have n0_ := Aside0.mk (blk_below (g := gb674) (o := .cells #[.int .i64 a0_0, .slice A0_1 l0_1.length c0_1] 24 (0, 0)) (by (with_reducible repeat (first | refine blk_drewN ?_ _ | refine blk_drew ?_ | refine blk_alloc ?_ _)); exact BK674.out) hb); have n1_ := Aside0.mk (below_step (by repeat (first | (with_reducible first | exact HB.out | apply below_alloc | apply pw_below_drewN | apply below_drew1 | refine below_set ?_ GE674.out) | exact HB.out)) hb); have n2_ := Aside0.mk (hbox); have n3_ := Aside0.mk ((by rw [hg]; exact (below_size (by repeat (first | (with_reducible first | exact HB.out | apply below_alloc | apply pw_below_drewN | apply below_drew1 | refine below_set ?_ GE674.out) | exact HB.out))) : w.heap.size ≤ gb675)); have n4_ := Aside0.mk ((by rw [hg]; exact (below_size (by repeat (first | (with_reducible first | exact HB.out | apply below_alloc | apply pw_below_drewN | apply below_drew1 | refine below_set ?_ GE674.out) | exact HB.out))) : w.heap.size ≤ gb675)); have n5_ := Aside0.mk ((by rw [hg]; exact Nat.ne_of_lt (blk_lt (g := gb674) (o := .cells #[.int .i64 a0_0, .slice A0_1 l0_1.length c0_1] 24 (0, 0)) (by (with_reducible repeat (first | refine blk_drewN ?_ _ | refine blk_drew ?_ | refine blk_alloc ?_ _)); exact BK674.out)) : gb674 ≠ gb675)); have n6_ := Aside0.mk ((by rw [hg]; exact Nat.ne_of_gt (blk_lt (g := gb674) (o := .cells #[.int .i64 a0_0, .slice A0_1 l0_1.length c0_1] 24 (0, 0)) (by (with_reducible repeat (first | refine blk_drewN ?_ _ | refine blk_drew ?_ | refine blk_alloc ?_ _)); exact BK674.out)) : gb675 ≠ gb674)); clear BK674; clear HB; have BK674 := n0_; have HB := n1_; have BK675 := n2_; have GW675 := n3_; have GE675 := n4_; have NB674_675 := n5_; have NB675_674 := n6_; clear n0_ n1_ n2_ n3_ n4_ n5_ n6_; clear hb hbox hg; have hnb10 := NB674_675.out; have hnc10 := NB675_674.out; have hcz11_0 : w9.cell? ⟨gb674, 0, none⟩ = some (.int .i64 a0_0) := (blk_cell BK674.out 0).trans rfl; have hcz11_1 : w9.cell? ⟨gb674, 1, none⟩ = some (.slice A0_1 l0_1.length c0_1) := (blk_cell BK674.out 1).trans rfl; have hfz11_0 := blk_frozen BK674.out 0; have hfz11_1 := blk_frozen BK674.out 1) | ((with_reducible refine gate_callee (f := 44) rfl ?_); refine goesL_ (some 16) rfl rfl Tryd.func44 (by kernel_rfl) rfl #[.agg #[.int .i64 a0_0, .slice A0_1 l0_1.length c0_1]] rfl (by (try simp only [List.map_toArray, List.map_cons, List.map_nil]); first | done | rfl | (simp only [List.length_drop, List.length_take]; rfl)) ?_; (with_reducible refine (dapple_Clash.calls a0_0 _ _ l0_1 t676 t677 t678 _ ?side1 ?side2 ?side3 A3.out).mono ?_); (case side1 => repeat (first | exact (Kd.C_below HR0_1.out HB.out) | (with_reducible refine Kd.C_alloc ?_ _) | (with_reducible refine Kd.C_drewN ?_ _) | (with_reducible refine Kd.C_drew ?_))); (case side2 => exact HC0_1.out); (case side3 => exact Glob.below HGL.out (by repeat (first | (with_reducible first | exact HB.out | apply below_alloc | apply pw_below_drewN | apply below_drew1 | refine below_set ?_ GE674.out | refine below_set ?_ GE675.out) | exact HB.out))); rintro e w12 ⟨rfl, hb⟩; refine ⟨_, rfl, ?_⟩; have n0_ := Aside0.mk (blk_below (g := gb674) (o := .cells #[.int .i64 a0_0, .slice A0_1 l0_1.length c0_1] 24 (0, 0)) (by (with_reducible repeat (first | refine blk_drewN ?_ _ | refine blk_drew ?_ | refine blk_alloc ?_ _)); exact BK674.out) hb); have n1_ := Aside0.mk (blk_below (g := gb675) (o := .cells #[.int .i64 a1_0, .int .i64 a1_1] 25 (0, 0)) (by (with_reducible repeat (first | refine blk_drewN ?_ _ | refine blk_drew ?_ | refine blk_alloc ?_ _)); exact BK675.out) hb); have n2_ := Aside0.mk (below_step (by repeat (first | (with_reducible first | exact HB.out | apply below_alloc | apply pw_below_drewN | apply below_drew1 | refine below_set ?_ GE674.out | refine below_set ?_ GE675.out) | exact HB.out)) hb); clear BK674; clear BK675; clear HB; have BK674 := n0_; have BK675 := n1_; have HB := n2_; clear n0_ n1_ n2_; (try clear hb); (try clear hb2); (try clear hk); (try clear hi); have hcz13_0 : w12.cell? ⟨gb674, 0, none⟩ = some (.int .i64 a0_0) := (blk_cell BK674.out 0).trans rfl; have hcz13_1 : w12.cell? ⟨gb674, 1, none⟩ = some (.slice A0_1 l0_1.length c0_1) := (blk_cell BK674.out 1).trans rfl; have hfz13_0 := blk_frozen BK674.out 0; have hfz13_1 := blk_frozen BK674.out 1) | ((with_reducible refine gate_callee (f := 53) rfl ?_); refine goesL_ (some 22) rfl rfl Tryd.func53 (by kernel_rfl) rfl #[.agg #[.int .i64 a0_0, .slice A0_1 l0_1.length c0_1]] rfl (by (try simp only [List.map_toArray, List.map_cons, List.map_nil]); first | done | rfl | (simp only [List.length_drop, List.length_take]; rfl)) ?_; (with_reducible refine (dapple_Sure.calls a0_0 _ _ l0_1 t679 t680 t681 _ ?side1 ?side2 ?side3 A4.out).mono ?_); (case side1 => repeat (first | exact (Kd.C_below HR0_1.out HB.out) | (with_reducible refine Kd.C_alloc ?_ _) | (with_reducible refine Kd.C_drewN ?_ _) | (with_reducible refine Kd.C_drew ?_))); (case side2 => exact HC0_1.out); (case side3 => exact Glob.below HGL.out (by repeat (first | (with_reducible first | exact HB.out | apply below_alloc | apply pw_below_drewN | apply below_drew1 | refine below_set ?_ GE674.out | refine below_set ?_ GE675.out) | exact HB.out))); rintro e w14 ⟨rfl, hb⟩; refine ⟨_, rfl, ?_⟩; have n0_ := Aside0.mk (blk_below (g := gb674) (o := .cells #[.int .i64 a0_0, .slice A0_1 l0_1.length c0_1] 24 (0, 0)) (by (with_reducible repeat (first | refine blk_drewN ?_ _ | refine blk_drew ?_ | refine blk_alloc ?_ _)); exact BK674.out) hb); have n1_ := Aside0.mk (blk_below (g := gb675) (o := .cells #[.int .i64 a1_0, .int .i64 a1_1] 25 (0, 0)) (by (with_reducible repeat (first | refine blk_drewN ?_ _ | refine blk_drew ?_ | refine blk_alloc ?_ _)); exact BK675.out) hb); have n2_ := Aside0.mk (below_step (by repeat (first | (with_reducible first | exact HB.out | apply below_alloc | apply pw_below_drewN | apply below_drew1 | refine below_set ?_ GE674.out | refine below_set ?_ GE675.out) | exact HB.out)) hb); clear BK674; clear BK675; clear HB; have BK674 := n0_; have BK675 := n1_; have HB := n2_; clear n0_ n1_ n2_; (try clear hb); (try clear hb2); (try clear hk); (try clear hi); have hcz15_0 : w14.cell? ⟨gb674, 0, none⟩ = some (.int .i64 a0_0) := (blk_cell BK674.out 0).trans rfl; have hcz15_1 : w14.cell? ⟨gb674, 1, none⟩ = some (.slice A0_1 l0_1.length c0_1) := (blk_cell BK674.out 1).trans rfl; have hfz15_0 := blk_frozen BK674.out 0; have hfz15_1 := blk_frozen BK674.out 1) | ((with_reducible refine gate_callee (f := 29) rfl ?_); refine goesL_ (some 27) rfl rfl Tryd.func29 (by kernel_rfl) rfl #[.agg #[.int .i64 a0_0, .slice A0_1 l0_1.length c0_1]] rfl (by (try simp only [List.map_toArray, List.map_cons, List.map_nil]); first | done | rfl | (simp only [List.length_drop, List.length_take]; rfl)) ?_; (with_reducible refine (skewbaldlaw07_sound.calls k a0_0 _ _ l0_1 true _ ?side1 ?side2 A5.out).mono ?_); (case side1 => repeat (first | exact (Kd.C_below HR0_1.out HB.out) | (with_reducible refine Kd.C_alloc ?_ _) | (with_reducible refine Kd.C_drewN ?_ _) | (with_reducible refine Kd.C_drew ?_))); (case side2 => exact HC0_1.out); rintro e w16 ⟨rfl, hb⟩; refine ⟨_, rfl, ?_⟩; have n0_ := Aside0.mk (blk_below (g := gb674) (o := .cells #[.int .i64 a0_0, .slice A0_1 l0_1.length c0_1] 24 (0, 0)) (by (with_reducible repeat (first | refine blk_drewN ?_ _ | refine blk_drew ?_ | refine blk_alloc ?_ _)); exact BK674.out) hb); have n1_ := Aside0.mk (blk_below (g := gb675) (o := .cells #[.int .i64 a1_0, .int .i64 a1_1] 25 (0, 0)) (by (with_reducible repeat (first | refine blk_drewN ?_ _ | refine blk_drew ?_ | refine blk_alloc ?_ _)); exact BK675.out) hb); have n2_ := Aside0.mk (below_step (by repeat (first | (with_reducible first | exact HB.out | apply below_alloc | apply pw_below_drewN | apply below_drew1 | refine below_set ?_ GE674.out | refine below_set ?_ GE675.out) | exact HB.out)) hb); clear BK674; clear BK675; clear HB; have BK674 := n0_; have BK675 := n1_; have HB := n2_; clear n0_ n1_ n2_; (try clear hb); (try clear hb2); (try clear hk); (try clear hi)))
  (try simp only [Act.put, List.setIfInBounds_toArray, List.set_cons_zero, List.set_cons_succ])
  go_cut [79] (fun v79 wc => ∃ (kq : Nat) (x79_6 : Bool), v79 = .bool x79_6 ∧ Aside0 (skewbaldlaw07_DappleClash.j0 kq t676 t677 t678 t679 t680 t681 x79_6 a0_0 l0_1 a1_0 a1_1 = some true) ∧ Aside0 (kq ≤ k) ∧ Aside0 (wc.heap[gb674]? = some (.cells #[.int .i64 a0_0, (.slice A0_1 l0_1.length c0_1)] 24 (0, 0))) ∧ Aside0 (wc.heap[gb675]? = some (.cells #[.int .i64 a1_0, .int .i64 a1_1] 25 (0, 0))) ∧ Aside0 (Below w.heap.size w wc))
  case first =>
   have H := HC7.out
   clear HC7
   by_cases c17 : t678 = 0
   ·rw [if_pos c17] at H
    have c17b0 : (t678 == 0) = true := beq_iff_eq.mpr c17
    have c17b1 : (t678 != 0) = false := bne_eq_false_iff_eq.mpr c17
    clear c17
    (first | rw [c17b0] | (simp only [i64_w, i32_w]; rw [c17b0]) | skip)
    by_cases c18 : t681 = 0
    ·rw [if_pos c18] at H
     have c18b0 : (t681 == 0) = true := beq_iff_eq.mpr c18
     have c18b1 : (t681 != 0) = false := bne_eq_false_iff_eq.mpr c18
     clear c18
     as_aux_lemma =>
      have H' := Aside0.mk H
      clear H
      go_wp2
      go_meet
      case rel => exact ⟨_, (false), (by first | rfl | (simp; done) | (simp [*]; done)), H', ⟨by first | omega | exact Nat.le_refl _⟩, ⟨by (with_reducible repeat (first | refine blk_drewN ?_ _ | refine blk_drew ?_ | refine blk_alloc ?_ _)); exact BK674.out⟩, ⟨by (with_reducible repeat (first | refine blk_drewN ?_ _ | refine blk_drew ?_ | refine blk_alloc ?_ _)); exact BK675.out⟩, ⟨by repeat (first | (with_reducible first | exact HB.out | apply below_alloc | apply pw_below_drewN | apply below_drew1 | refine below_set ?_ GE674.out | refine below_set ?_ GE675.out) | exact HB.out)⟩⟩
    ·rw [if_neg c18] at H
     have c18b0 : (t681 == 0) = false := beq_eq_false_iff_ne.mpr c18
     have c18b1 : (t681 != 0) = true := bne_iff_ne.mpr c18
     by_cases c19 : t681 = 4
     ·rw [if_pos c19] at H
      have c19b0 : (t681 == 4) = true := beq_iff_eq.mpr c19
      have c19b1 : (t681 != 4) = false := bne_eq_false_iff_eq.mpr c19
      clear c19
      as_aux_lemma =>
       have H' := Aside0.mk H
       clear H
       go_wp2
       go_meet
       case rel => exact ⟨_, (((wrap64 (t679 + t680)) != 0)), (by first | rfl | (simp; done) | (simp [*]; done)), H', ⟨by first | omega | exact Nat.le_refl _⟩, ⟨by (with_reducible repeat (first | refine blk_drewN ?_ _ | refine blk_drew ?_ | refine blk_alloc ?_ _)); exact BK674.out⟩, ⟨by (with_reducible repeat (first | refine blk_drewN ?_ _ | refine blk_drew ?_ | refine blk_alloc ?_ _)); exact BK675.out⟩, ⟨by repeat (first | (with_reducible first | exact HB.out | apply below_alloc | apply pw_below_drewN | apply below_drew1 | refine below_set ?_ GE674.out | refine below_set ?_ GE675.out) | exact HB.out)⟩⟩
     ·rw [if_neg c19] at H
      have c19b0 : (t681 == 4) = false := beq_eq_false_iff_ne.mpr c19
      have c19b1 : (t681 != 4) = true := bne_iff_ne.mpr c19
      exact absurd H (by rcases k with _ | k <;> (first | (simp [skewbaldlaw07_DappleClash.j0]; done) | (rcases k with _ | k <;> simp [skewbaldlaw07_DappleClash.j0])))
   ·rw [if_neg c17] at H
    have c17b0 : (t678 == 0) = false := beq_eq_false_iff_ne.mpr c17
    have c17b1 : (t678 != 0) = true := bne_iff_ne.mpr c17
    (first | rw [c17b0] | (simp only [i64_w, i32_w]; rw [c17b0]) | skip)
    by_cases c20 : t678 = 4
    ·rw [if_pos c20] at H
     have c20b0 : (t678 == 4) = true := beq_iff_eq.mpr c20
     have c20b1 : (t678 != 4) = false := bne_eq_false_iff_eq.mpr c20
     clear c20
     by_cases c21 : (wrap64 (t676 + t677)) = 0
     ·rw [if_pos c21] at H
      have c21b0 : ((wrap64 (t676 + t677)) == 0) = true := beq_iff_eq.mpr c21
      have c21b1 : ((wrap64 (t676 + t677)) != 0) = false := bne_eq_false_iff_eq.mpr c21
      clear c21
      by_cases c22 : t681 = t678
      ·rw [if_pos c22] at H
       have c22b0 : (t681 == t678) = true := beq_iff_eq.mpr c22
       have c22b1 : (t681 != t678) = false := bne_eq_false_iff_eq.mpr c22
       clear c22
       by_cases c23 : t681 = 0
       ·rw [if_pos c23] at H
        have c23b0 : (t681 == 0) = true := beq_iff_eq.mpr c23
        have c23b1 : (t681 != 0) = false := bne_eq_false_iff_eq.mpr c23
        clear c23
        as_aux_lemma =>
         have H' := Aside0.mk H
         clear H
         go_wp2
         go_meet
         case rel => exact ⟨_, (false), (by first | rfl | (simp; done) | (simp [*]; done)), H', ⟨by first | omega | exact Nat.le_refl _⟩, ⟨by (with_reducible repeat (first | refine blk_drewN ?_ _ | refine blk_drew ?_ | refine blk_alloc ?_ _)); exact BK674.out⟩, ⟨by (with_reducible repeat (first | refine blk_drewN ?_ _ | refine blk_drew ?_ | refine blk_alloc ?_ _)); exact BK675.out⟩, ⟨by repeat (first | (with_reducible first | exact HB.out | apply below_alloc | apply pw_below_drewN | apply below_drew1 | refine below_set ?_ GE674.out | refine below_set ?_ GE675.out) | exact HB.out)⟩⟩
       ·rw [if_neg c23] at H
        have c23b0 : (t681 == 0) = false := beq_eq_false_iff_ne.mpr c23
        have c23b1 : (t681 != 0) = true := bne_iff_ne.mpr c23
        by_cases c24 : t681 = 4
        ·rw [if_pos c24] at H
         have c24b0 : (t681 == 4) = true := beq_iff_eq.mpr c24
         have c24b1 : (t681 != 4) = false := bne_eq_false_iff_eq.mpr c24
         clear c24
         as_aux_lemma =>
          have H' := Aside0.mk H
          clear H
          go_wp2
          go_meet
          case rel => exact ⟨_, (((wrap64 (t679 + t680)) != 0)), (by first | rfl | (simp; done) | (simp [*]; done)), H', ⟨by first | omega | exact Nat.le_refl _⟩, ⟨by (with_reducible repeat (first | refine blk_drewN ?_ _ | refine blk_drew ?_ | refine blk_alloc ?_ _)); exact BK674.out⟩, ⟨by (with_reducible repeat (first | refine blk_drewN ?_ _ | refine blk_drew ?_ | refine blk_alloc ?_ _)); exact BK675.out⟩, ⟨by repeat (first | (with_reducible first | exact HB.out | apply below_alloc | apply pw_below_drewN | apply below_drew1 | refine below_set ?_ GE674.out | refine below_set ?_ GE675.out) | exact HB.out)⟩⟩
        ·rw [if_neg c24] at H
         have c24b0 : (t681 == 4) = false := beq_eq_false_iff_ne.mpr c24
         have c24b1 : (t681 != 4) = true := bne_iff_ne.mpr c24
         exact absurd H (by rcases k with _ | k <;> (first | (simp [skewbaldlaw07_DappleClash.j0]; done) | (rcases k with _ | k <;> simp [skewbaldlaw07_DappleClash.j0])))
      ·rw [if_neg c22] at H
       have c22b0 : (t681 == t678) = false := beq_eq_false_iff_ne.mpr c22
       have c22b1 : (t681 != t678) = true := bne_iff_ne.mpr c22
       exact absurd H (by rcases k with _ | k <;> (first | (simp [skewbaldlaw07_DappleClash.j0]; done) | (rcases k with _ | k <;> simp [skewbaldlaw07_DappleClash.j0])))
     ·rw [if_neg c21] at H
      have c21b0 : ((wrap64 (t676 + t677)) == 0) = false := beq_eq_false_iff_ne.mpr c21
      have c21b1 : ((wrap64 (t676 + t677)) != 0) = true := bne_iff_ne.mpr c21
      exact absurd H (by rcases k with _ | k <;> (first | (simp [skewbaldlaw07_DappleClash.j0]; done) | (rcases k with _ | k <;> simp [skewbaldlaw07_DappleClash.j0])))
    ·rw [if_neg c20] at H
     have c20b0 : (t678 == 4) = false := beq_eq_false_iff_ne.mpr c20
     have c20b1 : (t678 != 4) = true := bne_iff_ne.mpr c20
     exact absurd H (by rcases k with _ | k <;> (first | (simp [skewbaldlaw07_DappleClash.j0]; done) | (rcases k with _ | k <;> simp [skewbaldlaw07_DappleClash.j0])))
  case rest =>
   clear HC7
   try clear c1
   try clear c2
   try clear p2
   try clear c4
   try clear c5
   try clear c6
   try clear p6
   try clear c10
   try clear c15
   try clear c17
   try clear c17b0
   try clear c17b1
   try clear c18
   try clear c18b0
   try clear c18b1
   try clear c19
   try clear c19b0
   try clear c19b1
   try clear c20
   try clear c20b0
   try clear c20b1
   try clear c21
   try clear c21b0
   try clear c21b1
   try clear c22
   try clear c22b0
   try clear c22b1
   try clear c23
   try clear c23b0
   try clear c23b1
   try clear c24
   try clear c24b0
   try clear c24b1
   try clear hcz11_0
   try clear hcz11_1
   try clear hcz13_0
   try clear hcz13_1
   try clear hcz15_0
   try clear hcz15_1
   try clear hfz11_0
   try clear hfz11_1
   try clear hfz13_0
   try clear hfz13_1
   try clear hfz15_0
   try clear hfz15_1
   obtain ⟨kq, x79_6, rfl, HA, HJ6, BK674, BK675, HB⟩ := hcut
   cases kq with
   | zero => exact absurd HA.out (by simp [skewbaldlaw07_DappleClash.j0])
   | succ kj6 =>
    have H := HA.out
    clear HA
    simp only [skewbaldlaw07_DappleClash.j0] at H
    by_cases c25 : x79_6 = true
    ·subst c25
     have H1 : (some false) = some true := by rw [if_pos rfl] at H; exact H
     clear H
     have H := H1
     clear H1
     exact absurd H (by simp)
    ·replace c25 := Bool.eq_false_iff.mpr c25
     subst c25
     have H1 : ((skewbaldlaw07_kinds.f kj6 a0_0 l0_1).bind fun t684 => (if (t684.length : Int) = (l0_1.length : Int) then (if t678 = 0 then ((skewbaldref00_In.f t676 0 (wrap64 (t677 - 1))).bind fun t687 => (if t687 = true then (if t677 ≥ (t684.length : Int) then (skewbaldlaw07_DappleClash.j1 kj6 t676 t677 t678 t679 t680 t681 t684 true a0_0 l0_1 a1_0 a1_1) else (if 0 ≤ t676 then (if t676 < (t684.length : Int) then (if 0 ≤ t677 then (if t677 < ((rd_L1 t684 t676).length : Int) then (if (rd (rd_L1 t684 t676) t677) < 1 then (skewbaldlaw07_DappleClash.j1 kj6 t676 t677 t678 t679 t680 t681 t684 true a0_0 l0_1 a1_0 a1_1) else (if t681 = 0 then ((skewbaldref00_In.f t679 0 (wrap64 (t680 - 1))).bind fun t690 => (if t690 = true then (if t680 ≥ (t684.length : Int) then (skewbaldlaw07_DappleClash.j1 kj6 t676 t677 t678 t679 t680 t681 t684 true a0_0 l0_1 a1_0 a1_1) else (if 0 ≤ t679 then (if t679 < (t684.length : Int) then (if 0 ≤ t680 then (if t680 < ((rd_L1 t684 t679).length : Int) then (skewbaldlaw07_DappleClash.j1 kj6 t676 t677 t678 t679 t680 t681 t684 ((rd (rd_L1 t684 t679) t680) != 2) a0_0 l0_1 a1_0 a1_1) else (none)) else (none)) else (none)) else (none))) else (skewbaldlaw07_DappleClash.j1 kj6 t676 t677 t678 t679 t680 t681 t684 true a0_0 l0_1 a1_0 a1_1))) else (skewbaldlaw07_DappleClash.j1 kj6 t676 t677 t678 t679 t680 t681 t684 false a0_0 l0_1 a1_0 a1_1))) else (none)) else (none)) else (none)) else (none))) else (skewbaldlaw07_DappleClash.j1 kj6 t676 t677 t678 t679 t680 t681 t684 true a0_0 l0_1 a1_0 a1_1))) else (if t681 = 0 then ((skewbaldref00_In.f t679 0 (wrap64 (t680 - 1))).bind fun t693 => (if t693 = true then (if t680 ≥ (t684.length : Int) then (skewbaldlaw07_DappleClash.j1 kj6 t676 t677 t678 t679 t680 t681 t684 true a0_0 l0_1 a1_0 a1_1) else (if 0 ≤ t679 then (if t679 < (t684.length : Int) then (if 0 ≤ t680 then (if t680 < ((rd_L1 t684 t679).length : Int) then (skewbaldlaw07_DappleClash.j1 kj6 t676 t677 t678 t679 t680 t681 t684 ((rd (rd_L1 t684 t679) t680) != 2) a0_0 l0_1 a1_0 a1_1) else (none)) else (none)) else (none)) else (none))) else (skewbaldlaw07_DappleClash.j1 kj6 t676 t677 t678 t679 t680 t681 t684 true a0_0 l0_1 a1_0 a1_1))) else (skewbaldlaw07_DappleClash.j1 kj6 t676 t677 t678 t679 t680 t681 t684 false a0_0 l0_1 a1_0 a1_1))) else (some false))) = some true := by rw [if_neg (show ¬ (false = true) by decide)] at H; exact H
     clear H
     have H := H1
     clear H1
     replace H := Option.bind_eq_some_iff.mp H
     obtain ⟨t684, A260, H⟩ := H
     replace H : (if (t684.length : Int) = (l0_1.length : Int) then (if t678 = 0 then ((skewbaldref00_In.f t676 0 (wrap64 (t677 - 1))).bind fun t687 => (if t687 = true then (if t677 ≥ (t684.length : Int) then (skewbaldlaw07_DappleClash.j1 kj6 t676 t677 t678 t679 t680 t681 t684 true a0_0 l0_1 a1_0 a1_1) else (if 0 ≤ t676 then (if t676 < (t684.length : Int) then (if 0 ≤ t677 then (if t677 < ((rd_L1 t684 t676).length : Int) then (if (rd (rd_L1 t684 t676) t677) < 1 then (skewbaldlaw07_DappleClash.j1 kj6 t676 t677 t678 t679 t680 t681 t684 true a0_0 l0_1 a1_0 a1_1) else (if t681 = 0 then ((skewbaldref00_In.f t679 0 (wrap64 (t680 - 1))).bind fun t690 => (if t690 = true then (if t680 ≥ (t684.length : Int) then (skewbaldlaw07_DappleClash.j1 kj6 t676 t677 t678 t679 t680 t681 t684 true a0_0 l0_1 a1_0 a1_1) else (if 0 ≤ t679 then (if t679 < (t684.length : Int) then (if 0 ≤ t680 then (if t680 < ((rd_L1 t684 t679).length : Int) then (skewbaldlaw07_DappleClash.j1 kj6 t676 t677 t678 t679 t680 t681 t684 ((rd (rd_L1 t684 t679) t680) != 2) a0_0 l0_1 a1_0 a1_1) else (none)) else (none)) else (none)) else (none))) else (skewbaldlaw07_DappleClash.j1 kj6 t676 t677 t678 t679 t680 t681 t684 true a0_0 l0_1 a1_0 a1_1))) else (skewbaldlaw07_DappleClash.j1 kj6 t676 t677 t678 t679 t680 t681 t684 false a0_0 l0_1 a1_0 a1_1))) else (none)) else (none)) else (none)) else (none))) else (skewbaldlaw07_DappleClash.j1 kj6 t676 t677 t678 t679 t680 t681 t684 true a0_0 l0_1 a1_0 a1_1))) else (if t681 = 0 then ((skewbaldref00_In.f t679 0 (wrap64 (t680 - 1))).bind fun t693 => (if t693 = true then (if t680 ≥ (t684.length : Int) then (skewbaldlaw07_DappleClash.j1 kj6 t676 t677 t678 t679 t680 t681 t684 true a0_0 l0_1 a1_0 a1_1) else (if 0 ≤ t679 then (if t679 < (t684.length : Int) then (if 0 ≤ t680 then (if t680 < ((rd_L1 t684 t679).length : Int) then (skewbaldlaw07_DappleClash.j1 kj6 t676 t677 t678 t679 t680 t681 t684 ((rd (rd_L1 t684 t679) t680) != 2) a0_0 l0_1 a1_0 a1_1) else (none)) else (none)) else (none)) else (none))) else (skewbaldlaw07_DappleClash.j1 kj6 t676 t677 t678 t679 t680 t681 t684 true a0_0 l0_1 a1_0 a1_1))) else (skewbaldlaw07_DappleClash.j1 kj6 t676 t677 t678 t679 t680 t681 t684 false a0_0 l0_1 a1_0 a1_1))) else (some false)) = some true := H
     have A26 := Aside0.mk A260
     clear A260
     by_cases c27 : (t684.length : Int) = (l0_1.length : Int)
     ·rw [if_pos c27] at H
      have c27b0 : ((t684.length : Int) == (l0_1.length : Int)) = true := beq_iff_eq.mpr c27
      have c27b1 : ((t684.length : Int) != (l0_1.length : Int)) = false := bne_eq_false_iff_eq.mpr c27
      have c27b2 : (t684.length == l0_1.length) = true := by first | simpa using c27 | (simp at c27 ⊢; omega)
      clear c27
      have HC28 := Aside0.mk H
      clear H
      have hnb29 := NB674_675.out
      have hnc29 := NB675_674.out
      have hcz30_0 : wc.cell? ⟨gb674, 0, none⟩ = some (.int .i64 a0_0) := (blk_cell BK674.out 0).trans rfl
      have hcz30_1 : wc.cell? ⟨gb674, 1, none⟩ = some (.slice A0_1 l0_1.length c0_1) := (blk_cell BK674.out 1).trans rfl
      have hfz30_0 := blk_frozen BK674.out 0
      have hfz30_1 := blk_frozen BK674.out 1
      go_upto_region 10 with (first | ((with_reducible refine gate_callee (f := 43) rfl ?_); refine goesL_ (some 81) rfl rfl Tryd.func43 (by kernel_rfl) rfl #[.agg #[.int .i64 a0_0, .slice A0_1 l0_1.length c0_1]] rfl (by (try simp only [List.map_toArray, List.map_cons, List.map_nil]); first | done | rfl | (simp only [List.length_drop, List.length_take]; rfl)) ?_; (with_reducible refine (skewbaldlaw07_kinds.calls kj6 a0_0 _ _ l0_1 t684 _ ?side1 ?side2 ?side3 A26.out).mono ?_); (case side1 => repeat (first | exact (Kd.C_below HR0_1.out HB.out) | (with_reducible refine Kd.C_alloc ?_ _) | (with_reducible refine Kd.C_drewN ?_ _) | (with_reducible refine Kd.C_drew ?_))); (case side2 => exact HC0_1.out); (case side3 => exact Glob.below HGL.out (by repeat (first | (with_reducible first | exact HB.out | apply below_alloc | apply pw_below_drewN | apply below_drew1 | refine below_set ?_ GE674.out | refine below_set ?_ GE675.out) | exact HB.out))); rintro e w31 ⟨v685, rfl, ho0, hb⟩; refine ⟨_, rfl, ?_⟩; have n0_ := Aside0.mk (Kd.S_lower ho0 (below_size (by repeat (first | (with_reducible first | exact HB.out | apply below_alloc | apply pw_below_drewN | apply below_drew1 | refine below_set ?_ GE674.out | refine below_set ?_ GE675.out) | exact HB.out)))); have n1_ := Aside0.mk (blk_below (g := gb674) (o := .cells #[.int .i64 a0_0, .slice A0_1 l0_1.length c0_1] 24 (0, 0)) (by (with_reducible repeat (first | refine blk_drewN ?_ _ | refine blk_drew ?_ | refine blk_alloc ?_ _)); exact BK674.out) hb); have n2_ := Aside0.mk (blk_below (g := gb675) (o := .cells #[.int .i64 a1_0, .int .i64 a1_1] 25 (0, 0)) (by (with_reducible repeat (first | refine blk_drewN ?_ _ | refine blk_drew ?_ | refine blk_alloc ?_ _)); exact BK675.out) hb); have n3_ := Aside0.mk (below_step (by repeat (first | (with_reducible first | exact HB.out | apply below_alloc | apply pw_below_drewN | apply below_drew1 | refine below_set ?_ GE674.out | refine below_set ?_ GE675.out) | exact HB.out)) hb); clear BK674; clear BK675; clear HB; have HO686 := n0_; have BK674 := n1_; have BK675 := n2_; have HB := n3_; clear n0_ n1_ n2_ n3_; (try clear hb); (try clear hb2); (try clear hk); (try clear hi); (try clear ho0); obtain ⟨Ao32, co32, eo32⟩ := Kd.S_slice HO686.out; subst eo32; have hcz33_0 : w31.cell? ⟨gb674, 0, none⟩ = some (.int .i64 a0_0) := (blk_cell BK674.out 0).trans rfl; have hcz33_1 : w31.cell? ⟨gb674, 1, none⟩ = some (.slice A0_1 l0_1.length c0_1) := (blk_cell BK674.out 1).trans rfl; have hfz33_0 := blk_frozen BK674.out 0; have hfz33_1 := blk_frozen BK674.out 1))
      (try simp only [Act.put, List.setIfInBounds_toArray, List.set_cons_zero, List.set_cons_succ])
      go_cut [139] (fun v139 wc => ∃ (kq : Nat) (x139_27 : Bool), v139 = .bool x139_27 ∧ Aside0 (skewbaldlaw07_DappleClash.j1 kq t676 t677 t678 t679 t680 t681 t684 x139_27 a0_0 l0_1 a1_0 a1_1 = some true) ∧ Aside0 (kq ≤ kj6) ∧ Aside0 (Kd.S (Kd.slice 3 (Kd.int .i64)) 26 wc w.heap.size (fun _ => True) (.slice Ao32 t684.length co32) t684) ∧ Aside0 (wc.heap[gb674]? = some (.cells #[.int .i64 a0_0, (.slice A0_1 l0_1.length c0_1)] 24 (0, 0))) ∧ Aside0 (wc.heap[gb675]? = some (.cells #[.int .i64 a1_0, .int .i64 a1_1] 25 (0, 0))) ∧ Aside0 (Below w.heap.size w wc))
      case first =>
       have H := HC28.out
       clear HC28
       by_cases c34 : t678 = 0
       ·rw [if_pos c34] at H
        have c34b0 : (t678 == 0) = true := beq_iff_eq.mpr c34
        have c34b1 : (t678 != 0) = false := bne_eq_false_iff_eq.mpr c34
        clear c34
        (first | rw [c34b0] | (simp only [i64_w, i32_w]; rw [c34b0]) | skip)
        replace H := Option.bind_eq_some_iff.mp H
        obtain ⟨t687, A350, H⟩ := H
        replace H : (if t687 = true then (if t677 ≥ (t684.length : Int) then (skewbaldlaw07_DappleClash.j1 kj6 t676 t677 t678 t679 t680 t681 t684 true a0_0 l0_1 a1_0 a1_1) else (if 0 ≤ t676 then (if t676 < (t684.length : Int) then (if 0 ≤ t677 then (if t677 < ((rd_L1 t684 t676).length : Int) then (if (rd (rd_L1 t684 t676) t677) < 1 then (skewbaldlaw07_DappleClash.j1 kj6 t676 t677 t678 t679 t680 t681 t684 true a0_0 l0_1 a1_0 a1_1) else (if t681 = 0 then ((skewbaldref00_In.f t679 0 (wrap64 (t680 - 1))).bind fun t690 => (if t690 = true then (if t680 ≥ (t684.length : Int) then (skewbaldlaw07_DappleClash.j1 kj6 t676 t677 t678 t679 t680 t681 t684 true a0_0 l0_1 a1_0 a1_1) else (if 0 ≤ t679 then (if t679 < (t684.length : Int) then (if 0 ≤ t680 then (if t680 < ((rd_L1 t684 t679).length : Int) then (skewbaldlaw07_DappleClash.j1 kj6 t676 t677 t678 t679 t680 t681 t684 ((rd (rd_L1 t684 t679) t680) != 2) a0_0 l0_1 a1_0 a1_1) else (none)) else (none)) else (none)) else (none))) else (skewbaldlaw07_DappleClash.j1 kj6 t676 t677 t678 t679 t680 t681 t684 true a0_0 l0_1 a1_0 a1_1))) else (skewbaldlaw07_DappleClash.j1 kj6 t676 t677 t678 t679 t680 t681 t684 false a0_0 l0_1 a1_0 a1_1))) else (none)) else (none)) else (none)) else (none))) else (skewbaldlaw07_DappleClash.j1 kj6 t676 t677 t678 t679 t680 t681 t684 true a0_0 l0_1 a1_0 a1_1)) = some true := H
        have A35 := Aside0.mk A350
        clear A350
        by_cases c36 : t687 = true
        ·subst c36
         have H1 : (if t677 ≥ (t684.length : Int) then (skewbaldlaw07_DappleClash.j1 kj6 t676 t677 t678 t679 t680 t681 t684 true a0_0 l0_1 a1_0 a1_1) else (if 0 ≤ t676 then (if t676 < (t684.length : Int) then (if 0 ≤ t677 then (if t677 < ((rd_L1 t684 t676).length : Int) then (if (rd (rd_L1 t684 t676) t677) < 1 then (skewbaldlaw07_DappleClash.j1 kj6 t676 t677 t678 t679 t680 t681 t684 true a0_0 l0_1 a1_0 a1_1) else (if t681 = 0 then ((skewbaldref00_In.f t679 0 (wrap64 (t680 - 1))).bind fun t690 => (if t690 = true then (if t680 ≥ (t684.length : Int) then (skewbaldlaw07_DappleClash.j1 kj6 t676 t677 t678 t679 t680 t681 t684 true a0_0 l0_1 a1_0 a1_1) else (if 0 ≤ t679 then (if t679 < (t684.length : Int) then (if 0 ≤ t680 then (if t680 < ((rd_L1 t684 t679).length : Int) then (skewbaldlaw07_DappleClash.j1 kj6 t676 t677 t678 t679 t680 t681 t684 ((rd (rd_L1 t684 t679) t680) != 2) a0_0 l0_1 a1_0 a1_1) else (none)) else (none)) else (none)) else (none))) else (skewbaldlaw07_DappleClash.j1 kj6 t676 t677 t678 t679 t680 t681 t684 true a0_0 l0_1 a1_0 a1_1))) else (skewbaldlaw07_DappleClash.j1 kj6 t676 t677 t678 t679 t680 t681 t684 false a0_0 l0_1 a1_0 a1_1))) else (none)) else (none)) else (none)) else (none))) = some true := by rw [if_pos rfl] at H; exact H
         clear H
         have H := H1
         clear H1
         by_cases c37 : t677 ≥ (t684.length : Int)
         ·rw [if_pos c37] at H
          have c37b0 : decide ((t684.length : Int) ≤ t677) = true := decide_eq_true c37
          clear c37
          exact absurd H (by rcases kj6 with _ | kj6 <;> (first | (simp [skewbaldlaw07_DappleClash.j1]; done) | (rcases kj6 with _ | kj6 <;> simp [skewbaldlaw07_DappleClash.j1])))
         ·rw [if_neg c37] at H
          have c37b0 : decide ((t684.length : Int) ≤ t677) = false := decide_eq_false c37
          clear c37
          by_cases c38 : 0 ≤ t676
          ·rw [if_pos c38] at H
           have c38b0 : decide (0 ≤ t676) = true := decide_eq_true c38
           clear c38
           by_cases c39 : t676 < (t684.length : Int)
           ·rw [if_pos c39] at H
            have c39b0 : decide (t676 < (t684.length : Int)) = true := decide_eq_true c39
            clear c39
            by_cases c40 : 0 ≤ t677
            ·rw [if_pos c40] at H
             have c40b0 : decide (0 ≤ t677) = true := decide_eq_true c40
             clear c40
             by_cases c41 : t677 < ((rd_L1 t684 t676).length : Int)
             ·rw [if_pos c41] at H
              have c41b0 : decide (t677 < ((rd_L1 t684 t676).length : Int)) = true := decide_eq_true c41
              clear c41
              by_cases c42 : (rd (rd_L1 t684 t676) t677) < 1
              ·rw [if_pos c42] at H
               have c42b0 : decide ((rd (rd_L1 t684 t676) t677) < 1) = true := decide_eq_true c42
               clear c42
               exact absurd H (by rcases kj6 with _ | kj6 <;> (first | (simp [skewbaldlaw07_DappleClash.j1]; done) | (rcases kj6 with _ | kj6 <;> simp [skewbaldlaw07_DappleClash.j1])))
              ·rw [if_neg c42] at H
               have c42b0 : decide ((rd (rd_L1 t684 t676) t677) < 1) = false := decide_eq_false c42
               clear c42
               by_cases c43 : t681 = 0
               ·rw [if_pos c43] at H
                have c43b0 : (t681 == 0) = true := beq_iff_eq.mpr c43
                have c43b1 : (t681 != 0) = false := bne_eq_false_iff_eq.mpr c43
                clear c43
                replace H := Option.bind_eq_some_iff.mp H
                obtain ⟨t690, A440, H⟩ := H
                replace H : (if t690 = true then (if t680 ≥ (t684.length : Int) then (skewbaldlaw07_DappleClash.j1 kj6 t676 t677 t678 t679 t680 t681 t684 true a0_0 l0_1 a1_0 a1_1) else (if 0 ≤ t679 then (if t679 < (t684.length : Int) then (if 0 ≤ t680 then (if t680 < ((rd_L1 t684 t679).length : Int) then (skewbaldlaw07_DappleClash.j1 kj6 t676 t677 t678 t679 t680 t681 t684 ((rd (rd_L1 t684 t679) t680) != 2) a0_0 l0_1 a1_0 a1_1) else (none)) else (none)) else (none)) else (none))) else (skewbaldlaw07_DappleClash.j1 kj6 t676 t677 t678 t679 t680 t681 t684 true a0_0 l0_1 a1_0 a1_1)) = some true := H
                have A44 := Aside0.mk A440
                clear A440
                by_cases c45 : t690 = true
                ·subst c45
                 have H1 : (if t680 ≥ (t684.length : Int) then (skewbaldlaw07_DappleClash.j1 kj6 t676 t677 t678 t679 t680 t681 t684 true a0_0 l0_1 a1_0 a1_1) else (if 0 ≤ t679 then (if t679 < (t684.length : Int) then (if 0 ≤ t680 then (if t680 < ((rd_L1 t684 t679).length : Int) then (skewbaldlaw07_DappleClash.j1 kj6 t676 t677 t678 t679 t680 t681 t684 ((rd (rd_L1 t684 t679) t680) != 2) a0_0 l0_1 a1_0 a1_1) else (none)) else (none)) else (none)) else (none))) = some true := by rw [if_pos rfl] at H; exact H
                 clear H
                 have H := H1
                 clear H1
                 by_cases c46 : t680 ≥ (t684.length : Int)
                 ·rw [if_pos c46] at H
                  have c46b0 : decide ((t684.length : Int) ≤ t680) = true := decide_eq_true c46
                  clear c46
                  exact absurd H (by rcases kj6 with _ | kj6 <;> (first | (simp [skewbaldlaw07_DappleClash.j1]; done) | (rcases kj6 with _ | kj6 <;> simp [skewbaldlaw07_DappleClash.j1])))
                 ·rw [if_neg c46] at H
                  have c46b0 : decide ((t684.length : Int) ≤ t680) = false := decide_eq_false c46
                  clear c46
                  by_cases c47 : 0 ≤ t679
                  ·rw [if_pos c47] at H
                   have c47b0 : decide (0 ≤ t679) = true := decide_eq_true c47
                   clear c47
                   by_cases c48 : t679 < (t684.length : Int)
                   ·rw [if_pos c48] at H
                    have c48b0 : decide (t679 < (t684.length : Int)) = true := decide_eq_true c48
                    clear c48
                    by_cases c49 : 0 ≤ t680
                    ·rw [if_pos c49] at H
                     have c49b0 : decide (0 ≤ t680) = true := decide_eq_true c49
                     clear c49
                     by_cases c50 : t680 < ((rd_L1 t684 t679).length : Int)
                     ·rw [if_pos c50] at H
                      have c50b0 : decide (t680 < ((rd_L1 t684 t679).length : Int)) = true := decide_eq_true c50
                      clear c50
                      as_aux_lemma =>
                       have H' := Aside0.mk H
                       clear H
                       go_wp2_with (first | (go_at_call 36; (with_reducible refine (skewbaldref00_In.calls t676 0 (wrap64 (t677 - 1)) true _ A35.out).mono ?_); rintro e w' ⟨rfl, ⟨nd, rfl⟩⟩; have p688 : 0 ≤ (t676 : Int) := of_decide_eq_true (by first | (with_reducible assumption) | assumption); have q688 : t676 < (t684.length : Int) := of_decide_eq_true (by first | (with_reducible assumption) | assumption); obtain ⟨ad688, A688_0, c688_0, e688, hx688_0, hl688_0, hi688_0⟩ := at_L1 (Kd.S_reads' HO686.out).2.2 t676 p688 q688; cases e688; obtain ⟨ce688, hce688, hMe688, hcc688⟩ := Kd.S_get HO686.out [] t676 p688 (by first | exact q688 | exact of_decide_eq_true (by first | (with_reducible assumption) | assumption) | (have e_ := (Kd.S_reads' HO686.out).1; omega)); obtain ⟨ve688_0, rfl, ge688_0⟩ := hMe688; have hv688_0 := hcc688 0 _ rfl; rw [Nat.add_zero, show ((Kd.slice 3 (Kd.int .i64))).sz = 1 from rfl, Nat.mul_one] at hv688_0; replace hv688_0 := Option.some.inj (hv688_0.symm.trans hx688_0); rw [hv688_0] at ge688_0; have HL688_0 := Aside0.mk (show Kd.R (Kd.int .i64) 3 _ _ _ _ (rd_L1 t684 t676) from ge688_0); clear hv688_0 ge688_0; clear hcc688 hce688; have HR688_0 := Aside0.mk hi688_0; have HC688_0 := Aside0.mk hl688_0; clear hi688_0 hl688_0; replace p688 := eq_true p688; replace q688 := eq_true q688; have p689 : 0 ≤ (t677 : Int) := of_decide_eq_true (by first | (with_reducible assumption) | assumption); have q689 : t677 < ((rd_L1 t684 t676).length : Int) := of_decide_eq_true (by first | (with_reducible assumption) | assumption); obtain ⟨ad689, e689, hx689_0⟩ := Kd.at_int (by repeat (first | (with_reducible exact HR688_0.out) | (with_reducible refine Kd.C_alloc ?_ _) | (with_reducible refine Kd.C_drewN ?_ _) | (with_reducible refine Kd.C_drew ?_) | exact HR688_0.out)) t677 p689 q689; cases e689; replace p689 := eq_true p689; replace q689 := eq_true q689) | (go_at_call 36; (with_reducible refine (skewbaldref00_In.calls t679 0 (wrap64 (t680 - 1)) true _ A44.out).mono ?_); rintro e w' ⟨rfl, ⟨nd, rfl⟩⟩; have p691 : 0 ≤ (t679 : Int) := of_decide_eq_true (by first | (with_reducible assumption) | assumption); have q691 : t679 < (t684.length : Int) := of_decide_eq_true (by first | (with_reducible assumption) | assumption); obtain ⟨ad691, A691_0, c691_0, e691, hx691_0, hl691_0, hi691_0⟩ := at_L1 (Kd.S_reads' HO686.out).2.2 t679 p691 q691; obtain rfl : ad688 = ad691 := (by injection e691); obtain ⟨ce691, hce691, hMe691, hcc691⟩ := Kd.S_get HO686.out [] t679 p691 (by first | exact q691 | exact of_decide_eq_true (by first | (with_reducible assumption) | assumption) | (have e_ := (Kd.S_reads' HO686.out).1; omega)); obtain ⟨ve691_0, rfl, ge691_0⟩ := hMe691; have hv691_0 := hcc691 0 _ rfl; rw [Nat.add_zero, show ((Kd.slice 3 (Kd.int .i64))).sz = 1 from rfl, Nat.mul_one] at hv691_0; replace hv691_0 := Option.some.inj (hv691_0.symm.trans hx691_0); rw [hv691_0] at ge691_0; have HL691_0 := Aside0.mk (show Kd.R (Kd.int .i64) 3 _ _ _ _ (rd_L1 t684 t679) from ge691_0); clear hv691_0 ge691_0; clear hcc691 hce691; have HR691_0 := Aside0.mk hi691_0; have HC691_0 := Aside0.mk hl691_0; clear hi691_0 hl691_0; replace p691 := eq_true p691; replace q691 := eq_true q691; have p692 : 0 ≤ (t680 : Int) := of_decide_eq_true (by first | (with_reducible assumption) | assumption); have q692 : t680 < ((rd_L1 t684 t679).length : Int) := of_decide_eq_true (by first | (with_reducible assumption) | assumption); obtain ⟨ad692, e692, hx692_0⟩ := Kd.at_int (by repeat (first | (with_reducible exact HR691_0.out) | (with_reducible refine Kd.C_alloc ?_ _) | (with_reducible refine Kd.C_drewN ?_ _) | (with_reducible refine Kd.C_drew ?_) | exact HR691_0.out)) t680 p692 q692; cases e692; replace p692 := eq_true p692; replace q692 := eq_true q692))
                       go_meet
                       case rel => exact ⟨_, (((rd (rd_L1 t684 t679) t680) != 2)), (by first | rfl | (simp; done) | (simp [*]; done)), H', ⟨by have := HJ6.out; first | omega | exact Nat.le_refl _⟩, ⟨by (with_reducible repeat (first | apply Kd.S_alloc | apply Kd.S_drewN | apply Kd.S_drew)); exact HO686.out⟩, ⟨by (with_reducible repeat (first | refine blk_drewN ?_ _ | refine blk_drew ?_ | refine blk_alloc ?_ _)); exact BK674.out⟩, ⟨by (with_reducible repeat (first | refine blk_drewN ?_ _ | refine blk_drew ?_ | refine blk_alloc ?_ _)); exact BK675.out⟩, ⟨by repeat (first | (with_reducible first | exact HB.out | apply below_alloc | apply pw_below_drewN | apply below_drew1 | refine below_set ?_ GE674.out | refine below_set ?_ GE675.out) | exact HB.out)⟩⟩
                     ·rw [if_neg c50] at H
                      exact absurd H (by simp)
                    ·rw [if_neg c49] at H
                     exact absurd H (by simp)
                   ·rw [if_neg c48] at H
                    exact absurd H (by simp)
                  ·rw [if_neg c47] at H
                   exact absurd H (by simp)
                ·replace c45 := Bool.eq_false_iff.mpr c45
                 subst c45
                 have H1 : (skewbaldlaw07_DappleClash.j1 kj6 t676 t677 t678 t679 t680 t681 t684 true a0_0 l0_1 a1_0 a1_1) = some true := by rw [if_neg (show ¬ (false = true) by decide)] at H; exact H
                 clear H
                 have H := H1
                 clear H1
                 exact absurd H (by rcases kj6 with _ | kj6 <;> (first | (simp [skewbaldlaw07_DappleClash.j1]; done) | (rcases kj6 with _ | kj6 <;> simp [skewbaldlaw07_DappleClash.j1])))
               ·rw [if_neg c43] at H
                have c43b0 : (t681 == 0) = false := beq_eq_false_iff_ne.mpr c43
                have c43b1 : (t681 != 0) = true := bne_iff_ne.mpr c43
                as_aux_lemma =>
                 have H' := Aside0.mk H
                 clear H
                 go_wp2_with (first | (go_at_call 36; (with_reducible refine (skewbaldref00_In.calls t676 0 (wrap64 (t677 - 1)) true _ A35.out).mono ?_); rintro e w' ⟨rfl, ⟨nd, rfl⟩⟩; have p688 : 0 ≤ (t676 : Int) := of_decide_eq_true (by first | (with_reducible assumption) | assumption); have q688 : t676 < (t684.length : Int) := of_decide_eq_true (by first | (with_reducible assumption) | assumption); obtain ⟨ad688, A688_0, c688_0, e688, hx688_0, hl688_0, hi688_0⟩ := at_L1 (Kd.S_reads' HO686.out).2.2 t676 p688 q688; cases e688; obtain ⟨ce688, hce688, hMe688, hcc688⟩ := Kd.S_get HO686.out [] t676 p688 (by first | exact q688 | exact of_decide_eq_true (by first | (with_reducible assumption) | assumption) | (have e_ := (Kd.S_reads' HO686.out).1; omega)); obtain ⟨ve688_0, rfl, ge688_0⟩ := hMe688; have hv688_0 := hcc688 0 _ rfl; rw [Nat.add_zero, show ((Kd.slice 3 (Kd.int .i64))).sz = 1 from rfl, Nat.mul_one] at hv688_0; replace hv688_0 := Option.some.inj (hv688_0.symm.trans hx688_0); rw [hv688_0] at ge688_0; have HL688_0 := Aside0.mk (show Kd.R (Kd.int .i64) 3 _ _ _ _ (rd_L1 t684 t676) from ge688_0); clear hv688_0 ge688_0; clear hcc688 hce688; have HR688_0 := Aside0.mk hi688_0; have HC688_0 := Aside0.mk hl688_0; clear hi688_0 hl688_0; replace p688 := eq_true p688; replace q688 := eq_true q688; have p689 : 0 ≤ (t677 : Int) := of_decide_eq_true (by first | (with_reducible assumption) | assumption); have q689 : t677 < ((rd_L1 t684 t676).length : Int) := of_decide_eq_true (by first | (with_reducible assumption) | assumption); obtain ⟨ad689, e689, hx689_0⟩ := Kd.at_int (by repeat (first | (with_reducible exact HR688_0.out) | (with_reducible refine Kd.C_alloc ?_ _) | (with_reducible refine Kd.C_drewN ?_ _) | (with_reducible refine Kd.C_drew ?_) | exact HR688_0.out)) t677 p689 q689; cases e689; replace p689 := eq_true p689; replace q689 := eq_true q689))
                 go_meet
                 case rel => exact ⟨_, (false), (by first | rfl | (simp; done) | (simp [*]; done)), H', ⟨by have := HJ6.out; first | omega | exact Nat.le_refl _⟩, ⟨by (with_reducible repeat (first | apply Kd.S_alloc | apply Kd.S_drewN | apply Kd.S_drew)); exact HO686.out⟩, ⟨by (with_reducible repeat (first | refine blk_drewN ?_ _ | refine blk_drew ?_ | refine blk_alloc ?_ _)); exact BK674.out⟩, ⟨by (with_reducible repeat (first | refine blk_drewN ?_ _ | refine blk_drew ?_ | refine blk_alloc ?_ _)); exact BK675.out⟩, ⟨by repeat (first | (with_reducible first | exact HB.out | apply below_alloc | apply pw_below_drewN | apply below_drew1 | refine below_set ?_ GE674.out | refine below_set ?_ GE675.out) | exact HB.out)⟩⟩
             ·rw [if_neg c41] at H
              exact absurd H (by simp)
            ·rw [if_neg c40] at H
             exact absurd H (by simp)
           ·rw [if_neg c39] at H
            exact absurd H (by simp)
          ·rw [if_neg c38] at H
           exact absurd H (by simp)
        ·replace c36 := Bool.eq_false_iff.mpr c36
         subst c36
         have H1 : (skewbaldlaw07_DappleClash.j1 kj6 t676 t677 t678 t679 t680 t681 t684 true a0_0 l0_1 a1_0 a1_1) = some true := by rw [if_neg (show ¬ (false = true) by decide)] at H; exact H
         clear H
         have H := H1
         clear H1
         exact absurd H (by rcases kj6 with _ | kj6 <;> (first | (simp [skewbaldlaw07_DappleClash.j1]; done) | (rcases kj6 with _ | kj6 <;> simp [skewbaldlaw07_DappleClash.j1])))
       ·rw [if_neg c34] at H
        have c34b0 : (t678 == 0) = false := beq_eq_false_iff_ne.mpr c34
        have c34b1 : (t678 != 0) = true := bne_iff_ne.mpr c34
        (first | rw [c34b0] | (simp only [i64_w, i32_w]; rw [c34b0]) | skip)
        by_cases c51 : t681 = 0
        ·rw [if_pos c51] at H
         have c51b0 : (t681 == 0) = true := beq_iff_eq.mpr c51
         have c51b1 : (t681 != 0) = false := bne_eq_false_iff_eq.mpr c51
         clear c51
         replace H := Option.bind_eq_some_iff.mp H
         obtain ⟨t693, A520, H⟩ := H
         replace H : (if t693 = true then (if t680 ≥ (t684.length : Int) then (skewbaldlaw07_DappleClash.j1 kj6 t676 t677 t678 t679 t680 t681 t684 true a0_0 l0_1 a1_0 a1_1) else (if 0 ≤ t679 then (if t679 < (t684.length : Int) then (if 0 ≤ t680 then (if t680 < ((rd_L1 t684 t679).length : Int) then (skewbaldlaw07_DappleClash.j1 kj6 t676 t677 t678 t679 t680 t681 t684 ((rd (rd_L1 t684 t679) t680) != 2) a0_0 l0_1 a1_0 a1_1) else (none)) else (none)) else (none)) else (none))) else (skewbaldlaw07_DappleClash.j1 kj6 t676 t677 t678 t679 t680 t681 t684 true a0_0 l0_1 a1_0 a1_1)) = some true := H
         have A52 := Aside0.mk A520
         clear A520
         by_cases c53 : t693 = true
         ·subst c53
          have H1 : (if t680 ≥ (t684.length : Int) then (skewbaldlaw07_DappleClash.j1 kj6 t676 t677 t678 t679 t680 t681 t684 true a0_0 l0_1 a1_0 a1_1) else (if 0 ≤ t679 then (if t679 < (t684.length : Int) then (if 0 ≤ t680 then (if t680 < ((rd_L1 t684 t679).length : Int) then (skewbaldlaw07_DappleClash.j1 kj6 t676 t677 t678 t679 t680 t681 t684 ((rd (rd_L1 t684 t679) t680) != 2) a0_0 l0_1 a1_0 a1_1) else (none)) else (none)) else (none)) else (none))) = some true := by rw [if_pos rfl] at H; exact H
          clear H
          have H := H1
          clear H1
          by_cases c54 : t680 ≥ (t684.length : Int)
          ·rw [if_pos c54] at H
           have c54b0 : decide ((t684.length : Int) ≤ t680) = true := decide_eq_true c54
           clear c54
           exact absurd H (by rcases kj6 with _ | kj6 <;> (first | (simp [skewbaldlaw07_DappleClash.j1]; done) | (rcases kj6 with _ | kj6 <;> simp [skewbaldlaw07_DappleClash.j1])))
          ·rw [if_neg c54] at H
           have c54b0 : decide ((t684.length : Int) ≤ t680) = false := decide_eq_false c54
           clear c54
           by_cases c55 : 0 ≤ t679
           ·rw [if_pos c55] at H
            have c55b0 : decide (0 ≤ t679) = true := decide_eq_true c55
            clear c55
            by_cases c56 : t679 < (t684.length : Int)
            ·rw [if_pos c56] at H
             have c56b0 : decide (t679 < (t684.length : Int)) = true := decide_eq_true c56
             clear c56
             by_cases c57 : 0 ≤ t680
             ·rw [if_pos c57] at H
              have c57b0 : decide (0 ≤ t680) = true := decide_eq_true c57
              clear c57
              by_cases c58 : t680 < ((rd_L1 t684 t679).length : Int)
              ·rw [if_pos c58] at H
               have c58b0 : decide (t680 < ((rd_L1 t684 t679).length : Int)) = true := decide_eq_true c58
               clear c58
               as_aux_lemma =>
                have H' := Aside0.mk H
                clear H
                go_wp2_with (first | (go_at_call 36; (with_reducible refine (skewbaldref00_In.calls t679 0 (wrap64 (t680 - 1)) true _ A52.out).mono ?_); rintro e w' ⟨rfl, ⟨nd, rfl⟩⟩; have p694 : 0 ≤ (t679 : Int) := of_decide_eq_true (by first | (with_reducible assumption) | assumption); have q694 : t679 < (t684.length : Int) := of_decide_eq_true (by first | (with_reducible assumption) | assumption); obtain ⟨ad694, A694_0, c694_0, e694, hx694_0, hl694_0, hi694_0⟩ := at_L1 (Kd.S_reads' HO686.out).2.2 t679 p694 q694; cases e694; obtain ⟨ce694, hce694, hMe694, hcc694⟩ := Kd.S_get HO686.out [] t679 p694 (by first | exact q694 | exact of_decide_eq_true (by first | (with_reducible assumption) | assumption) | (have e_ := (Kd.S_reads' HO686.out).1; omega)); obtain ⟨ve694_0, rfl, ge694_0⟩ := hMe694; have hv694_0 := hcc694 0 _ rfl; rw [Nat.add_zero, show ((Kd.slice 3 (Kd.int .i64))).sz = 1 from rfl, Nat.mul_one] at hv694_0; replace hv694_0 := Option.some.inj (hv694_0.symm.trans hx694_0); rw [hv694_0] at ge694_0; have HL694_0 := Aside0.mk (show Kd.R (Kd.int .i64) 3 _ _ _ _ (rd_L1 t684 t679) from ge694_0); clear hv694_0 ge694_0; clear hcc694 hce694; have HR694_0 := Aside0.mk hi694_0; have HC694_0 := Aside0.mk hl694_0; clear hi694_0 hl694_0; replace p694 := eq_true p694; replace q694 := eq_true q694; have p695 : 0 ≤ (t680 : Int) := of_decide_eq_true (by first | (with_reducible assumption) | assumption); have q695 : t680 < ((rd_L1 t684 t679).length : Int) := of_decide_eq_true (by first | (with_reducible assumption) | assumption); obtain ⟨ad695, e695, hx695_0⟩ := Kd.at_int (by repeat (first | (with_reducible exact HR694_0.out) | (with_reducible refine Kd.C_alloc ?_ _) | (with_reducible refine Kd.C_drewN ?_ _) | (with_reducible refine Kd.C_drew ?_) | exact HR694_0.out)) t680 p695 q695; cases e695; replace p695 := eq_true p695; replace q695 := eq_true q695))
                go_meet
                case rel => exact ⟨_, (((rd (rd_L1 t684 t679) t680) != 2)), (by first | rfl | (simp; done) | (simp [*]; done)), H', ⟨by have := HJ6.out; first | omega | exact Nat.le_refl _⟩, ⟨by (with_reducible repeat (first | apply Kd.S_alloc | apply Kd.S_drewN | apply Kd.S_drew)); exact HO686.out⟩, ⟨by (with_reducible repeat (first | refine blk_drewN ?_ _ | refine blk_drew ?_ | refine blk_alloc ?_ _)); exact BK674.out⟩, ⟨by (with_reducible repeat (first | refine blk_drewN ?_ _ | refine blk_drew ?_ | refine blk_alloc ?_ _)); exact BK675.out⟩, ⟨by repeat (first | (with_reducible first | exact HB.out | apply below_alloc | apply pw_below_drewN | apply below_drew1 | refine below_set ?_ GE674.out | refine below_set ?_ GE675.out) | exact HB.out)⟩⟩
              ·rw [if_neg c58] at H
               exact absurd H (by simp)
             ·rw [if_neg c57] at H
              exact absurd H (by simp)
            ·rw [if_neg c56] at H
             exact absurd H (by simp)
           ·rw [if_neg c55] at H
            exact absurd H (by simp)
         ·replace c53 := Bool.eq_false_iff.mpr c53
          subst c53
          have H1 : (skewbaldlaw07_DappleClash.j1 kj6 t676 t677 t678 t679 t680 t681 t684 true a0_0 l0_1 a1_0 a1_1) = some true := by rw [if_neg (show ¬ (false = true) by decide)] at H; exact H
          clear H
          have H := H1
          clear H1
          exact absurd H (by rcases kj6 with _ | kj6 <;> (first | (simp [skewbaldlaw07_DappleClash.j1]; done) | (rcases kj6 with _ | kj6 <;> simp [skewbaldlaw07_DappleClash.j1])))
        ·rw [if_neg c51] at H
         have c51b0 : (t681 == 0) = false := beq_eq_false_iff_ne.mpr c51
         have c51b1 : (t681 != 0) = true := bne_iff_ne.mpr c51
         as_aux_lemma =>
          have H' := Aside0.mk H
          clear H
          go_wp2
          go_meet
          case rel => exact ⟨_, (false), (by first | rfl | (simp; done) | (simp [*]; done)), H', ⟨by have := HJ6.out; first | omega | exact Nat.le_refl _⟩, ⟨by (with_reducible repeat (first | apply Kd.S_alloc | apply Kd.S_drewN | apply Kd.S_drew)); exact HO686.out⟩, ⟨by (with_reducible repeat (first | refine blk_drewN ?_ _ | refine blk_drew ?_ | refine blk_alloc ?_ _)); exact BK674.out⟩, ⟨by (with_reducible repeat (first | refine blk_drewN ?_ _ | refine blk_drew ?_ | refine blk_alloc ?_ _)); exact BK675.out⟩, ⟨by repeat (first | (with_reducible first | exact HB.out | apply below_alloc | apply pw_below_drewN | apply below_drew1 | refine below_set ?_ GE674.out | refine below_set ?_ GE675.out) | exact HB.out)⟩⟩
      case rest =>
       clear HC28
       try clear c1
       try clear c2
       try clear p2
       try clear c3
       try clear c4
       try clear c5
       try clear c6
       try clear p6
       try clear q6
       try clear hx6
       try clear c10
       try clear c15
       try clear c17
       try clear c17b0
       try clear c17b1
       try clear c18
       try clear c18b0
       try clear c18b1
       try clear c19
       try clear c19b0
       try clear c19b1
       try clear c20
       try clear c20b0
       try clear c20b1
       try clear c21
       try clear c21b0
       try clear c21b1
       try clear c22
       try clear c22b0
       try clear c22b1
       try clear c23
       try clear c23b0
       try clear c23b1
       try clear c24
       try clear c24b0
       try clear c24b1
       try clear c25
       try clear c27
       try clear c27b0
       try clear c27b1
       try clear c27b2
       try clear c29
       try clear c34
       try clear c34b0
       try clear c34b1
       try clear c36
       try clear c37
       try clear c37b0
       try clear c38
       try clear c38b0
       try clear c39
       try clear c39b0
       try clear c40
       try clear c40b0
       try clear c41
       try clear c41b0
       try clear c42
       try clear c42b0
       try clear c43
       try clear c43b0
       try clear c43b1
       try clear c44
       try clear c45
       try clear c46
       try clear c46b0
       try clear c47
       try clear c47b0
       try clear c48
       try clear c48b0
       try clear c49
       try clear c49b0
       try clear c50
       try clear c50b0
       try clear c51
       try clear c51b0
       try clear c51b1
       try clear c53
       try clear c54
       try clear c54b0
       try clear c55
       try clear c55b0
       try clear c56
       try clear c56b0
       try clear c57
       try clear c57b0
       try clear c58
       try clear c58b0
       try clear hcz11_0
       try clear hcz11_1
       try clear hcz13_0
       try clear hcz13_1
       try clear hcz15_0
       try clear hcz15_1
       try clear hcz30_0
       try clear hcz30_1
       try clear hcz33_0
       try clear hcz33_1
       try clear hfz11_0
       try clear hfz11_1
       try clear hfz13_0
       try clear hfz13_1
       try clear hfz15_0
       try clear hfz15_1
       try clear hfz30_0
       try clear hfz30_1
       try clear hfz33_0
       try clear hfz33_1
       try clear hx688_0
       try clear hx689_0
       try clear hx691_0
       try clear hx692_0
       try clear hx694_0
       try clear hx695_0
       try clear p2
       try clear p6
       try clear p688
       try clear p689
       try clear p691
       try clear p692
       try clear p694
       try clear p695
       try clear q688
       try clear q689
       try clear q691
       try clear q692
       try clear q694
       try clear q695
       obtain ⟨kq, x139_27, rfl, HA, HJ27, HO_11, BK674, BK675, HB⟩ := hcut
       cases kq with
       | zero => exact absurd HA.out (by simp [skewbaldlaw07_DappleClash.j1])
       | succ kj27 =>
        have H := HA.out
        clear HA
        simp only [skewbaldlaw07_DappleClash.j1] at H
        by_cases c59 : x139_27 = true
        ·subst c59
         have H1 : (some false) = some true := by rw [if_pos rfl] at H; exact H
         clear H
         have H := H1
         clear H1
         exact absurd H (by simp)
        ·replace c59 := Bool.eq_false_iff.mpr c59
         subst c59
         have H1 : (if (t684.length : Int) < 2 then (if t678 = 4 then ((skewbaldlaw07_pressed.f kj27).bind fun t696 => (some t696)) else (some false)) else ((skewbaldlaw07_two.f a0_0 l0_1 a1_0 a1_1).bind fun bt697 => (if 0 ≤ (mn bt697.1 bt697.2) then (if (mn bt697.1 bt697.2) < (t684.length : Int) then (if 0 ≤ (mx bt697.1 bt697.2) then (if (mx bt697.1 bt697.2) < ((rd_L1 t684 (mn bt697.1 bt697.2)).length : Int) then (if (rd (rd_L1 t684 (mn bt697.1 bt697.2)) (mx bt697.1 bt697.2)) > 0 then (if t678 = 0 then (if t676 > (mn bt697.1 bt697.2) then (some false) else (if t676 = (mn bt697.1 bt697.2) then (if t677 > (mx bt697.1 bt697.2) then (some false) else (if (rd (rd_L1 t684 (mn bt697.1 bt697.2)) (mx bt697.1 bt697.2)) = 2 then (if t681 = 0 then (if t679 > (mn bt697.1 bt697.2) then (some false) else (if t679 = (mn bt697.1 bt697.2) then (if t680 > (mx bt697.1 bt697.2) then (some false) else ((skewbaldlaw07_pressed.f kj27).bind fun t703 => (some t703))) else ((skewbaldlaw07_pressed.f kj27).bind fun t704 => (some t704)))) else (some false)) else ((skewbaldlaw07_pressed.f kj27).bind fun t705 => (some t705)))) else (if (rd (rd_L1 t684 (mn bt697.1 bt697.2)) (mx bt697.1 bt697.2)) = 2 then (if t681 = 0 then (if t679 > (mn bt697.1 bt697.2) then (some false) else (if t679 = (mn bt697.1 bt697.2) then (if t680 > (mx bt697.1 bt697.2) then (some false) else ((skewbaldlaw07_pressed.f kj27).bind fun t708 => (some t708))) else ((skewbaldlaw07_pressed.f kj27).bind fun t709 => (some t709)))) else (some false)) else ((skewbaldlaw07_pressed.f kj27).bind fun t710 => (some t710))))) else (some false)) else (if (rd (rd_L1 t684 (mn bt697.1 bt697.2)) (mx bt697.1 bt697.2)) = 2 then (if t681 = 0 then (if t679 > (mn bt697.1 bt697.2) then (some false) else (if t679 = (mn bt697.1 bt697.2) then (if t680 > (mx bt697.1 bt697.2) then (some false) else ((skewbaldlaw07_pressed.f kj27).bind fun t713 => (some t713))) else ((skewbaldlaw07_pressed.f kj27).bind fun t714 => (some t714)))) else (some false)) else ((skewbaldlaw07_pressed.f kj27).bind fun t715 => (some t715)))) else (none)) else (none)) else (none)) else (none)))) = some true := by rw [if_neg (show ¬ (false = true) by decide)] at H; exact H
         clear H
         have H := H1
         clear H1
         by_cases c60 : (t684.length : Int) < 2
         ·rw [if_pos c60] at H
          have c60b0 : decide ((t684.length : Int) < 2) = true := decide_eq_true c60
          have c60b1 : decide (t684.length < 2) = true := decide_eq_true (by omega)
          clear c60
          by_cases c61 : t678 = 4
          ·rw [if_pos c61] at H
           have c61b0 : (t678 == 4) = true := beq_iff_eq.mpr c61
           have c61b1 : (t678 != 4) = false := bne_eq_false_iff_eq.mpr c61
           clear c61
           replace H := Option.bind_eq_some_iff.mp H
           obtain ⟨t696, A620, H⟩ := H
           replace H : (some t696) = some true := H
           have A62 := Aside0.mk A620
           clear A620
           as_aux_lemma =>
            have HE_ := Aside0.mk (Option.some.inj H)
            clear H
            go_wp2_with (first | (go_at_call 24; (with_reducible refine (skewbaldlaw07_pressed.calls kj27  t696 _ ?side1 A62.out).mono ?_); (case side1 => exact Glob.below HGL.out (by repeat (first | (with_reducible first | exact HB.out | apply below_alloc | apply pw_below_drewN | apply below_drew1 | refine below_set ?_ GE674.out | refine below_set ?_ GE675.out) | exact HB.out))); rintro e w63 ⟨rfl, hb⟩; have n0_ := Aside0.mk (Kd.S_below (by (with_reducible repeat (first | apply Kd.S_alloc | apply Kd.S_drewN | apply Kd.S_drew)); exact HO_11.out) hb); have n1_ := Aside0.mk (blk_below (g := gb674) (o := .cells #[.int .i64 a0_0, .slice A0_1 l0_1.length c0_1] 24 (0, 0)) (by (with_reducible repeat (first | refine blk_drewN ?_ _ | refine blk_drew ?_ | refine blk_alloc ?_ _)); exact BK674.out) hb); have n2_ := Aside0.mk (blk_below (g := gb675) (o := .cells #[.int .i64 a1_0, .int .i64 a1_1] 25 (0, 0)) (by (with_reducible repeat (first | refine blk_drewN ?_ _ | refine blk_drew ?_ | refine blk_alloc ?_ _)); exact BK675.out) hb); have n3_ := Aside0.mk (below_step (by repeat (first | (with_reducible first | exact HB.out | apply below_alloc | apply pw_below_drewN | apply below_drew1 | refine below_set ?_ GE674.out | refine below_set ?_ GE675.out) | exact HB.out)) hb); clear HO_11; clear BK674; clear BK675; clear HB; have HO_11 := n0_; have BK674 := n1_; have BK675 := n2_; have HB := n3_; clear n0_ n1_ n2_ n3_; (try clear hb); (try clear hb2); (try clear hk); (try clear hi)))
            go_ret
            exact ⟨by first | rfl | (rw [HE_.out]; done) | (simp [HE_.out]; done) | (simp [errW_none, errW_some] <;> rfl) | (simp [*, errW_none, errW_some] <;> rfl), by repeat (first | (with_reducible first | exact HB.out | apply below_alloc | apply pw_below_drewN | apply below_drew1 | refine below_set ?_ GE674.out | refine below_set ?_ GE675.out) | exact HB.out)⟩
          ·rw [if_neg c61] at H
           have c61b0 : (t678 == 4) = false := beq_eq_false_iff_ne.mpr c61
           have c61b1 : (t678 != 4) = true := bne_iff_ne.mpr c61
           exact absurd H (by simp)
         ·rw [if_neg c60] at H
          have c60b0 : decide ((t684.length : Int) < 2) = false := decide_eq_false c60
          have c60b1 : decide (t684.length < 2) = false := decide_eq_false (by omega)
          clear c60
          replace H := Option.bind_eq_some_iff.mp H
          obtain ⟨⟨t697, t698⟩, A640, H⟩ := H
          replace H : (if 0 ≤ (mn t697 t698) then (if (mn t697 t698) < (t684.length : Int) then (if 0 ≤ (mx t697 t698) then (if (mx t697 t698) < ((rd_L1 t684 (mn t697 t698)).length : Int) then (if (rd (rd_L1 t684 (mn t697 t698)) (mx t697 t698)) > 0 then (if t678 = 0 then (if t676 > (mn t697 t698) then (some false) else (if t676 = (mn t697 t698) then (if t677 > (mx t697 t698) then (some false) else (if (rd (rd_L1 t684 (mn t697 t698)) (mx t697 t698)) = 2 then (if t681 = 0 then (if t679 > (mn t697 t698) then (some false) else (if t679 = (mn t697 t698) then (if t680 > (mx t697 t698) then (some false) else ((skewbaldlaw07_pressed.f kj27).bind fun t703 => (some t703))) else ((skewbaldlaw07_pressed.f kj27).bind fun t704 => (some t704)))) else (some false)) else ((skewbaldlaw07_pressed.f kj27).bind fun t705 => (some t705)))) else (if (rd (rd_L1 t684 (mn t697 t698)) (mx t697 t698)) = 2 then (if t681 = 0 then (if t679 > (mn t697 t698) then (some false) else (if t679 = (mn t697 t698) then (if t680 > (mx t697 t698) then (some false) else ((skewbaldlaw07_pressed.f kj27).bind fun t708 => (some t708))) else ((skewbaldlaw07_pressed.f kj27).bind fun t709 => (some t709)))) else (some false)) else ((skewbaldlaw07_pressed.f kj27).bind fun t710 => (some t710))))) else (some false)) else (if (rd (rd_L1 t684 (mn t697 t698)) (mx t697 t698)) = 2 then (if t681 = 0 then (if t679 > (mn t697 t698) then (some false) else (if t679 = (mn t697 t698) then (if t680 > (mx t697 t698) then (some false) else ((skewbaldlaw07_pressed.f kj27).bind fun t713 => (some t713))) else ((skewbaldlaw07_pressed.f kj27).bind fun t714 => (some t714)))) else (some false)) else ((skewbaldlaw07_pressed.f kj27).bind fun t715 => (some t715)))) else (none)) else (none)) else (none)) else (none)) = some true := H
          have A64 := Aside0.mk A640
          clear A640
          obtain ⟨ji65, hji65⟩ : ∃ j_ : Int, (mn t697 t698) = j_ := ⟨_, rfl⟩
          replace H : (if 0 ≤ (ji65) then (if (ji65) < (t684.length : Int) then (if 0 ≤ (mx t697 t698) then (if (mx t697 t698) < ((rd_L1 t684 (ji65)).length : Int) then (if (rd (rd_L1 t684 (ji65)) (mx t697 t698)) > 0 then (if t678 = 0 then (if t676 > (ji65) then (some false) else (if t676 = (ji65) then (if t677 > (mx t697 t698) then (some false) else (if (rd (rd_L1 t684 (ji65)) (mx t697 t698)) = 2 then (if t681 = 0 then (if t679 > (ji65) then (some false) else (if t679 = (ji65) then (if t680 > (mx t697 t698) then (some false) else ((skewbaldlaw07_pressed.f kj27).bind fun t703 => (some t703))) else ((skewbaldlaw07_pressed.f kj27).bind fun t704 => (some t704)))) else (some false)) else ((skewbaldlaw07_pressed.f kj27).bind fun t705 => (some t705)))) else (if (rd (rd_L1 t684 (ji65)) (mx t697 t698)) = 2 then (if t681 = 0 then (if t679 > (ji65) then (some false) else (if t679 = (ji65) then (if t680 > (mx t697 t698) then (some false) else ((skewbaldlaw07_pressed.f kj27).bind fun t708 => (some t708))) else ((skewbaldlaw07_pressed.f kj27).bind fun t709 => (some t709)))) else (some false)) else ((skewbaldlaw07_pressed.f kj27).bind fun t710 => (some t710))))) else (some false)) else (if (rd (rd_L1 t684 (ji65)) (mx t697 t698)) = 2 then (if t681 = 0 then (if t679 > (ji65) then (some false) else (if t679 = (ji65) then (if t680 > (mx t697 t698) then (some false) else ((skewbaldlaw07_pressed.f kj27).bind fun t713 => (some t713))) else ((skewbaldlaw07_pressed.f kj27).bind fun t714 => (some t714)))) else (some false)) else ((skewbaldlaw07_pressed.f kj27).bind fun t715 => (some t715)))) else (none)) else (none)) else (none)) else (none)) = some true := by first | (rw [hji65] at H; exact H) | (simp only [hji65] at H ⊢; exact H)
          (try rw [hji65] at A64)
          have hji65_ : (if t698 < t697 then t698 else t697) = ji65 := hji65
          obtain ⟨ji66, hji66⟩ : ∃ j_ : Int, (mx t697 t698) = j_ := ⟨_, rfl⟩
          replace H : (if 0 ≤ (ji65) then (if (ji65) < (t684.length : Int) then (if 0 ≤ (ji66) then (if (ji66) < ((rd_L1 t684 (ji65)).length : Int) then (if (rd (rd_L1 t684 (ji65)) (ji66)) > 0 then (if t678 = 0 then (if t676 > (ji65) then (some false) else (if t676 = (ji65) then (if t677 > (ji66) then (some false) else (if (rd (rd_L1 t684 (ji65)) (ji66)) = 2 then (if t681 = 0 then (if t679 > (ji65) then (some false) else (if t679 = (ji65) then (if t680 > (ji66) then (some false) else ((skewbaldlaw07_pressed.f kj27).bind fun t703 => (some t703))) else ((skewbaldlaw07_pressed.f kj27).bind fun t704 => (some t704)))) else (some false)) else ((skewbaldlaw07_pressed.f kj27).bind fun t705 => (some t705)))) else (if (rd (rd_L1 t684 (ji65)) (ji66)) = 2 then (if t681 = 0 then (if t679 > (ji65) then (some false) else (if t679 = (ji65) then (if t680 > (ji66) then (some false) else ((skewbaldlaw07_pressed.f kj27).bind fun t708 => (some t708))) else ((skewbaldlaw07_pressed.f kj27).bind fun t709 => (some t709)))) else (some false)) else ((skewbaldlaw07_pressed.f kj27).bind fun t710 => (some t710))))) else (some false)) else (if (rd (rd_L1 t684 (ji65)) (ji66)) = 2 then (if t681 = 0 then (if t679 > (ji65) then (some false) else (if t679 = (ji65) then (if t680 > (ji66) then (some false) else ((skewbaldlaw07_pressed.f kj27).bind fun t713 => (some t713))) else ((skewbaldlaw07_pressed.f kj27).bind fun t714 => (some t714)))) else (some false)) else ((skewbaldlaw07_pressed.f kj27).bind fun t715 => (some t715)))) else (none)) else (none)) else (none)) else (none)) = some true := by first | (rw [hji66] at H; exact H) | (simp only [hji66] at H ⊢; exact H)
          (try rw [hji66] at A64)
          have hji66_ : (if t697 < t698 then t698 else t697) = ji66 := hji66
          by_cases c67 : 0 ≤ (ji65)
          ·rw [if_pos c67] at H
           have c67b0 : decide (0 ≤ (ji65)) = true := decide_eq_true c67
           clear c67
           by_cases c68 : (ji65) < (t684.length : Int)
           ·rw [if_pos c68] at H
            have c68b0 : decide ((ji65) < (t684.length : Int)) = true := decide_eq_true c68
            clear c68
            by_cases c69 : 0 ≤ (ji66)
            ·rw [if_pos c69] at H
             have c69b0 : decide (0 ≤ (ji66)) = true := decide_eq_true c69
             clear c69
             by_cases c70 : (ji66) < ((rd_L1 t684 (ji65)).length : Int)
             ·rw [if_pos c70] at H
              have c70b0 : decide ((ji66) < ((rd_L1 t684 (ji65)).length : Int)) = true := decide_eq_true c70
              clear c70
              by_cases c71 : (rd (rd_L1 t684 (ji65)) (ji66)) > 0
              ·rw [if_pos c71] at H
               have c71b0 : decide (0 < (rd (rd_L1 t684 (ji65)) (ji66))) = true := decide_eq_true c71
               clear c71
               by_cases c72 : t678 = 0
               ·rw [if_pos c72] at H
                have c72b0 : (t678 == 0) = true := beq_iff_eq.mpr c72
                have c72b1 : (t678 != 0) = false := bne_eq_false_iff_eq.mpr c72
                clear c72
                by_cases c73 : t676 > (ji65)
                ·rw [if_pos c73] at H
                 have c73b0 : decide ((ji65) < t676) = true := decide_eq_true c73
                 clear c73
                 exact absurd H (by simp)
                ·rw [if_neg c73] at H
                 have c73b0 : decide ((ji65) < t676) = false := decide_eq_false c73
                 clear c73
                 by_cases c74 : t676 = (ji65)
                 ·rw [if_pos c74] at H
                  have c74b0 : (t676 == (ji65)) = true := beq_iff_eq.mpr c74
                  have c74b1 : (t676 != (ji65)) = false := bne_eq_false_iff_eq.mpr c74
                  clear c74
                  by_cases c75 : t677 > (ji66)
                  ·rw [if_pos c75] at H
                   have c75b0 : decide ((ji66) < t677) = true := decide_eq_true c75
                   clear c75
                   exact absurd H (by simp)
                  ·rw [if_neg c75] at H
                   have c75b0 : decide ((ji66) < t677) = false := decide_eq_false c75
                   clear c75
                   by_cases c76 : (rd (rd_L1 t684 (ji65)) (ji66)) = 2
                   ·rw [if_pos c76] at H
                    have c76b0 : ((rd (rd_L1 t684 (ji65)) (ji66)) == 2) = true := beq_iff_eq.mpr c76
                    have c76b1 : ((rd (rd_L1 t684 (ji65)) (ji66)) != 2) = false := bne_eq_false_iff_eq.mpr c76
                    clear c76
                    by_cases c77 : t681 = 0
                    ·rw [if_pos c77] at H
                     have c77b0 : (t681 == 0) = true := beq_iff_eq.mpr c77
                     have c77b1 : (t681 != 0) = false := bne_eq_false_iff_eq.mpr c77
                     clear c77
                     by_cases c78 : t679 > (ji65)
                     ·rw [if_pos c78] at H
                      have c78b0 : decide ((ji65) < t679) = true := decide_eq_true c78
                      clear c78
                      exact absurd H (by simp)
                     ·rw [if_neg c78] at H
                      have c78b0 : decide ((ji65) < t679) = false := decide_eq_false c78
                      clear c78
                      by_cases c79 : t679 = (ji65)
                      ·rw [if_pos c79] at H
                       have c79b0 : (t679 == (ji65)) = true := beq_iff_eq.mpr c79
                       have c79b1 : (t679 != (ji65)) = false := bne_eq_false_iff_eq.mpr c79
                       clear c79
                       by_cases c80 : t680 > (ji66)
                       ·rw [if_pos c80] at H
                        have c80b0 : decide ((ji66) < t680) = true := decide_eq_true c80
                        clear c80
                        exact absurd H (by simp)
                       ·rw [if_neg c80] at H
                        have c80b0 : decide ((ji66) < t680) = false := decide_eq_false c80
                        clear c80
                        replace H := Option.bind_eq_some_iff.mp H
                        obtain ⟨t703, A810, H⟩ := H
                        replace H : (some t703) = some true := H
                        have A81 := Aside0.mk A810
                        clear A810
                        as_aux_lemma =>
                         have HE_ := Aside0.mk (Option.some.inj H)
                         clear H
                         have hnb82 := NB674_675.out
                         have hnc82 := NB675_674.out
                         have hcz83_0 : wc.cell? ⟨gb674, 0, none⟩ = some (.int .i64 a0_0) := (blk_cell BK674.out 0).trans rfl
                         have hcz83_1 : wc.cell? ⟨gb674, 1, none⟩ = some (.slice A0_1 l0_1.length c0_1) := (blk_cell BK674.out 1).trans rfl
                         have hfz83_0 := blk_frozen BK674.out 0
                         have hfz83_1 := blk_frozen BK674.out 1
                         have hcz84_0 : wc.cell? ⟨gb675, 0, none⟩ = some (.int .i64 a1_0) := (blk_cell BK675.out 0).trans rfl
                         have hcz84_1 : wc.cell? ⟨gb675, 1, none⟩ = some (.int .i64 a1_1) := (blk_cell BK675.out 1).trans rfl
                         have hfz84_0 := blk_frozen BK675.out 0
                         have hfz84_1 := blk_frozen BK675.out 1
                         go_wp2_with (first | ((with_reducible refine gate_callee (f := 35) rfl ?_); refine goesL_ (some 154) rfl rfl Tryd.func35 (by kernel_rfl) rfl #[.agg #[.int .i64 a0_0, .slice A0_1 l0_1.length c0_1], .int .i64 a1_0, .int .i64 a1_1] rfl (by (try simp only [List.map_toArray, List.map_cons, List.map_nil]); first | done | rfl | (simp only [List.length_drop, List.length_take]; rfl)) ?_; (with_reducible refine (skewbaldlaw07_two.calls a0_0 _ _ l0_1 a1_0 a1_1 t697 t698 _ ?side1 ?side2 A64.out).mono ?_); (case side1 => repeat (first | exact (Kd.C_below HR0_1.out HB.out) | (with_reducible refine Kd.C_alloc ?_ _) | (with_reducible refine Kd.C_drewN ?_ _) | (with_reducible refine Kd.C_drew ?_))); (case side2 => exact HC0_1.out); rintro e w85 ⟨rfl, hb⟩; refine ⟨_, rfl, ?_⟩; have n0_ := Aside0.mk (Kd.S_below (by (with_reducible repeat (first | apply Kd.S_alloc | apply Kd.S_drewN | apply Kd.S_drew)); exact HO_11.out) hb); have n1_ := Aside0.mk (blk_below (g := gb674) (o := .cells #[.int .i64 a0_0, .slice A0_1 l0_1.length c0_1] 24 (0, 0)) (by (with_reducible repeat (first | refine blk_drewN ?_ _ | refine blk_drew ?_ | refine blk_alloc ?_ _)); exact BK674.out) hb); have n2_ := Aside0.mk (blk_below (g := gb675) (o := .cells #[.int .i64 a1_0, .int .i64 a1_1] 25 (0, 0)) (by (with_reducible repeat (first | refine blk_drewN ?_ _ | refine blk_drew ?_ | refine blk_alloc ?_ _)); exact BK675.out) hb); have n3_ := Aside0.mk (below_step (by repeat (first | (with_reducible first | exact HB.out | apply below_alloc | apply pw_below_drewN | apply below_drew1 | refine below_set ?_ GE674.out | refine below_set ?_ GE675.out) | exact HB.out)) hb); clear HO_11; clear BK674; clear BK675; clear HB; have HO_11 := n0_; have BK674 := n1_; have BK675 := n2_; have HB := n3_; clear n0_ n1_ n2_ n3_; (try clear hb); (try clear hb2); (try clear hk); (try clear hi); have p699 : 0 ≤ ((ji65) : Int) := of_decide_eq_true (by first | (with_reducible assumption) | assumption); have q699 : (ji65) < (t684.length : Int) := of_decide_eq_true (by first | (with_reducible assumption) | assumption); obtain ⟨ad699, A699_0, c699_0, e699, hx699_0, hl699_0, hi699_0⟩ := at_L1 (Kd.S_reads' HO_11.out).2.2 (ji65) p699 q699; cases e699; obtain ⟨ce699, hce699, hMe699, hcc699⟩ := Kd.S_get HO_11.out [] (ji65) p699 (by first | exact q699 | exact of_decide_eq_true (by first | (with_reducible assumption) | assumption) | (have e_ := (Kd.S_reads' HO_11.out).1; omega)); obtain ⟨ve699_0, rfl, ge699_0⟩ := hMe699; have hv699_0 := hcc699 0 _ rfl; rw [Nat.add_zero, show ((Kd.slice 3 (Kd.int .i64))).sz = 1 from rfl, Nat.mul_one] at hv699_0; replace hv699_0 := Option.some.inj (hv699_0.symm.trans hx699_0); rw [hv699_0] at ge699_0; have HL699_0 := Aside0.mk (show Kd.R (Kd.int .i64) 3 _ _ _ _ (rd_L1 t684 (ji65)) from ge699_0); clear hv699_0 ge699_0; clear hcc699 hce699; have HR699_0 := Aside0.mk hi699_0; have HC699_0 := Aside0.mk hl699_0; clear hi699_0 hl699_0; replace p699 := eq_true p699; replace q699 := eq_true q699; have p700 : 0 ≤ ((ji66) : Int) := of_decide_eq_true (by first | (with_reducible assumption) | assumption); have q700 : (ji66) < ((rd_L1 t684 (ji65)).length : Int) := of_decide_eq_true (by first | (with_reducible assumption) | assumption); obtain ⟨ad700, e700, hx700_0⟩ := Kd.at_int (by repeat (first | (with_reducible exact HR699_0.out) | (with_reducible refine Kd.C_alloc ?_ _) | (with_reducible refine Kd.C_drewN ?_ _) | (with_reducible refine Kd.C_drew ?_) | exact HR699_0.out)) (ji66) p700 q700; cases e700; replace p700 := eq_true p700; replace q700 := eq_true q700; have p701 : 0 ≤ ((ji65) : Int) := of_decide_eq_true (by first | (with_reducible assumption) | assumption); have q701 : (ji65) < (t684.length : Int) := of_decide_eq_true (by first | (with_reducible assumption) | assumption); obtain ⟨ad701, A701_0, c701_0, e701, hx701_0, hl701_0, hi701_0⟩ := at_L1 (Kd.S_reads' HO_11.out).2.2 (ji65) p701 q701; obtain rfl : ad699 = ad701 := (by injection e701); obtain ⟨ce701, hce701, hMe701, hcc701⟩ := Kd.S_get HO_11.out [] (ji65) p701 (by first | exact q701 | exact of_decide_eq_true (by first | (with_reducible assumption) | assumption) | (have e_ := (Kd.S_reads' HO_11.out).1; omega)); obtain ⟨ve701_0, rfl, ge701_0⟩ := hMe701; have hv701_0 := hcc701 0 _ rfl; rw [Nat.add_zero, show ((Kd.slice 3 (Kd.int .i64))).sz = 1 from rfl, Nat.mul_one] at hv701_0; replace hv701_0 := Option.some.inj (hv701_0.symm.trans hx701_0); rw [hv701_0] at ge701_0; have HL701_0 := Aside0.mk (show Kd.R (Kd.int .i64) 3 _ _ _ _ (rd_L1 t684 (ji65)) from ge701_0); clear hv701_0 ge701_0; clear hcc701 hce701; have HR701_0 := Aside0.mk hi701_0; have HC701_0 := Aside0.mk hl701_0; clear hi701_0 hl701_0; replace p701 := eq_true p701; replace q701 := eq_true q701; have ea_ := Option.some.inj (hx699_0.symm.trans hx701_0); injection ea_ with ea_ en_ ec_; subst ea_; subst ec_; clear en_; have p702 : 0 ≤ ((ji66) : Int) := of_decide_eq_true (by first | (with_reducible assumption) | assumption); have q702 : (ji66) < ((rd_L1 t684 (ji65)).length : Int) := of_decide_eq_true (by first | (with_reducible assumption) | assumption); obtain ⟨ad702, e702, hx702_0⟩ := Kd.at_int (by repeat (first | (with_reducible exact HR701_0.out) | (with_reducible refine Kd.C_alloc ?_ _) | (with_reducible refine Kd.C_drewN ?_ _) | (with_reducible refine Kd.C_drew ?_) | exact HR701_0.out)) (ji66) p702 q702; cases e702; replace p702 := eq_true p702; replace q702 := eq_true q702) | ((with_reducible refine gate_callee (f := 24) rfl ?_); refine goesL_ (some 219) rfl rfl Tryd.func24 (by kernel_rfl) rfl #[] rfl (by (try simp only [List.map_toArray, List.map_cons, List.map_nil]); first | done | rfl | (simp only [List.length_drop, List.length_take]; rfl)) ?_; (with_reducible refine (skewbaldlaw07_pressed.calls kj27  t703 _ ?side1 A81.out).mono ?_); (case side1 => exact Glob.below HGL.out (by repeat (first | (with_reducible first | exact HB.out | apply below_alloc | apply pw_below_drewN | apply below_drew1 | refine below_set ?_ GE674.out | refine below_set ?_ GE675.out) | exact HB.out))); rintro e w86 ⟨rfl, hb⟩; refine ⟨_, rfl, ?_⟩; have n0_ := Aside0.mk (Kd.S_below (by (with_reducible repeat (first | apply Kd.S_alloc | apply Kd.S_drewN | apply Kd.S_drew)); exact HO_11.out) hb); have n1_ := Aside0.mk (Kd.R_below (by (with_reducible repeat (first | apply Kd.R_alloc | apply Kd.R_drewN | apply Kd.R_drew)); exact HL699_0.out) hb); have n2_ := Aside0.mk (Kd.R_below (by (with_reducible repeat (first | apply Kd.R_alloc | apply Kd.R_drewN | apply Kd.R_drew)); exact HL701_0.out) hb); have n3_ := Aside0.mk (blk_below (g := gb674) (o := .cells #[.int .i64 a0_0, .slice A0_1 l0_1.length c0_1] 24 (0, 0)) (by (with_reducible repeat (first | refine blk_drewN ?_ _ | refine blk_drew ?_ | refine blk_alloc ?_ _)); exact BK674.out) hb); have n4_ := Aside0.mk (blk_below (g := gb675) (o := .cells #[.int .i64 a1_0, .int .i64 a1_1] 25 (0, 0)) (by (with_reducible repeat (first | refine blk_drewN ?_ _ | refine blk_drew ?_ | refine blk_alloc ?_ _)); exact BK675.out) hb); have n5_ := Aside0.mk (Kd.C_below (by repeat (first | (with_reducible exact HR699_0.out) | (with_reducible refine Kd.C_alloc ?_ _) | (with_reducible refine Kd.C_drewN ?_ _) | (with_reducible refine Kd.C_drew ?_) | exact HR699_0.out)) hb); have n6_ := Aside0.mk (Kd.C_below (by repeat (first | (with_reducible exact HR701_0.out) | (with_reducible refine Kd.C_alloc ?_ _) | (with_reducible refine Kd.C_drewN ?_ _) | (with_reducible refine Kd.C_drew ?_) | exact HR701_0.out)) hb); have n7_ := Aside0.mk (below_step (by repeat (first | (with_reducible first | exact HB.out | apply below_alloc | apply pw_below_drewN | apply below_drew1 | refine below_set ?_ GE674.out | refine below_set ?_ GE675.out) | exact HB.out)) hb); clear HO_11; clear HL699_0; clear HL701_0; clear BK674; clear BK675; clear HR699_0; clear HR701_0; clear HB; have HO_11 := n0_; have HL699_0 := n1_; have HL701_0 := n2_; have BK674 := n3_; have BK675 := n4_; have HR699_0 := n5_; have HR701_0 := n6_; have HB := n7_; clear n0_ n1_ n2_ n3_ n4_ n5_ n6_ n7_; (try clear hb); (try clear hb2); (try clear hk); (try clear hi)))
                         go_ret
                         exact ⟨by first | rfl | (rw [HE_.out]; done) | (simp [HE_.out]; done) | (simp [errW_none, errW_some] <;> rfl) | (simp only [← hji65, ← hji66]; first | rfl | (simp [errW_none, errW_some] <;> rfl)) | (simp [*, errW_none, errW_some] <;> rfl), by repeat (first | (with_reducible first | exact HB.out | apply below_alloc | apply pw_below_drewN | apply below_drew1 | refine below_set ?_ GE674.out | refine below_set ?_ GE675.out) | exact HB.out)⟩
                      ·rw [if_neg c79] at H
                       have c79b0 : (t679 == (ji65)) = false := beq_eq_false_iff_ne.mpr c79
                       have c79b1 : (t679 != (ji65)) = true := bne_iff_ne.mpr c79
                       replace H := Option.bind_eq_some_iff.mp H
                       obtain ⟨t704, A870, H⟩ := H
                       replace H : (some t704) = some true := H
                       have A87 := Aside0.mk A870
                       clear A870
                       as_aux_lemma =>
                        have HE_ := Aside0.mk (Option.some.inj H)
                        clear H
                        have hnb88 := NB674_675.out
                        have hnc88 := NB675_674.out
                        have hcz89_0 : wc.cell? ⟨gb674, 0, none⟩ = some (.int .i64 a0_0) := (blk_cell BK674.out 0).trans rfl
                        have hcz89_1 : wc.cell? ⟨gb674, 1, none⟩ = some (.slice A0_1 l0_1.length c0_1) := (blk_cell BK674.out 1).trans rfl
                        have hfz89_0 := blk_frozen BK674.out 0
                        have hfz89_1 := blk_frozen BK674.out 1
                        have hcz90_0 : wc.cell? ⟨gb675, 0, none⟩ = some (.int .i64 a1_0) := (blk_cell BK675.out 0).trans rfl
                        have hcz90_1 : wc.cell? ⟨gb675, 1, none⟩ = some (.int .i64 a1_1) := (blk_cell BK675.out 1).trans rfl
                        have hfz90_0 := blk_frozen BK675.out 0
                        have hfz90_1 := blk_frozen BK675.out 1
                        go_wp2_with (first | ((with_reducible refine gate_callee (f := 35) rfl ?_); refine goesL_ (some 154) rfl rfl Tryd.func35 (by kernel_rfl) rfl #[.agg #[.int .i64 a0_0, .slice A0_1 l0_1.length c0_1], .int .i64 a1_0, .int .i64 a1_1] rfl (by (try simp only [List.map_toArray, List.map_cons, List.map_nil]); first | done | rfl | (simp only [List.length_drop, List.length_take]; rfl)) ?_; (with_reducible refine (skewbaldlaw07_two.calls a0_0 _ _ l0_1 a1_0 a1_1 t697 t698 _ ?side1 ?side2 A64.out).mono ?_); (case side1 => repeat (first | exact (Kd.C_below HR0_1.out HB.out) | (with_reducible refine Kd.C_alloc ?_ _) | (with_reducible refine Kd.C_drewN ?_ _) | (with_reducible refine Kd.C_drew ?_))); (case side2 => exact HC0_1.out); rintro e w91 ⟨rfl, hb⟩; refine ⟨_, rfl, ?_⟩; have n0_ := Aside0.mk (Kd.S_below (by (with_reducible repeat (first | apply Kd.S_alloc | apply Kd.S_drewN | apply Kd.S_drew)); exact HO_11.out) hb); have n1_ := Aside0.mk (blk_below (g := gb674) (o := .cells #[.int .i64 a0_0, .slice A0_1 l0_1.length c0_1] 24 (0, 0)) (by (with_reducible repeat (first | refine blk_drewN ?_ _ | refine blk_drew ?_ | refine blk_alloc ?_ _)); exact BK674.out) hb); have n2_ := Aside0.mk (blk_below (g := gb675) (o := .cells #[.int .i64 a1_0, .int .i64 a1_1] 25 (0, 0)) (by (with_reducible repeat (first | refine blk_drewN ?_ _ | refine blk_drew ?_ | refine blk_alloc ?_ _)); exact BK675.out) hb); have n3_ := Aside0.mk (below_step (by repeat (first | (with_reducible first | exact HB.out | apply below_alloc | apply pw_below_drewN | apply below_drew1 | refine below_set ?_ GE674.out | refine below_set ?_ GE675.out) | exact HB.out)) hb); clear HO_11; clear BK674; clear BK675; clear HB; have HO_11 := n0_; have BK674 := n1_; have BK675 := n2_; have HB := n3_; clear n0_ n1_ n2_ n3_; (try clear hb); (try clear hb2); (try clear hk); (try clear hi); have p699 : 0 ≤ ((ji65) : Int) := of_decide_eq_true (by first | (with_reducible assumption) | assumption); have q699 : (ji65) < (t684.length : Int) := of_decide_eq_true (by first | (with_reducible assumption) | assumption); obtain ⟨ad699, A699_0, c699_0, e699, hx699_0, hl699_0, hi699_0⟩ := at_L1 (Kd.S_reads' HO_11.out).2.2 (ji65) p699 q699; cases e699; obtain ⟨ce699, hce699, hMe699, hcc699⟩ := Kd.S_get HO_11.out [] (ji65) p699 (by first | exact q699 | exact of_decide_eq_true (by first | (with_reducible assumption) | assumption) | (have e_ := (Kd.S_reads' HO_11.out).1; omega)); obtain ⟨ve699_0, rfl, ge699_0⟩ := hMe699; have hv699_0 := hcc699 0 _ rfl; rw [Nat.add_zero, show ((Kd.slice 3 (Kd.int .i64))).sz = 1 from rfl, Nat.mul_one] at hv699_0; replace hv699_0 := Option.some.inj (hv699_0.symm.trans hx699_0); rw [hv699_0] at ge699_0; have HL699_0 := Aside0.mk (show Kd.R (Kd.int .i64) 3 _ _ _ _ (rd_L1 t684 (ji65)) from ge699_0); clear hv699_0 ge699_0; clear hcc699 hce699; have HR699_0 := Aside0.mk hi699_0; have HC699_0 := Aside0.mk hl699_0; clear hi699_0 hl699_0; replace p699 := eq_true p699; replace q699 := eq_true q699; have p700 : 0 ≤ ((ji66) : Int) := of_decide_eq_true (by first | (with_reducible assumption) | assumption); have q700 : (ji66) < ((rd_L1 t684 (ji65)).length : Int) := of_decide_eq_true (by first | (with_reducible assumption) | assumption); obtain ⟨ad700, e700, hx700_0⟩ := Kd.at_int (by repeat (first | (with_reducible exact HR699_0.out) | (with_reducible refine Kd.C_alloc ?_ _) | (with_reducible refine Kd.C_drewN ?_ _) | (with_reducible refine Kd.C_drew ?_) | exact HR699_0.out)) (ji66) p700 q700; cases e700; replace p700 := eq_true p700; replace q700 := eq_true q700; have p701 : 0 ≤ ((ji65) : Int) := of_decide_eq_true (by first | (with_reducible assumption) | assumption); have q701 : (ji65) < (t684.length : Int) := of_decide_eq_true (by first | (with_reducible assumption) | assumption); obtain ⟨ad701, A701_0, c701_0, e701, hx701_0, hl701_0, hi701_0⟩ := at_L1 (Kd.S_reads' HO_11.out).2.2 (ji65) p701 q701; obtain rfl : ad699 = ad701 := (by injection e701); obtain ⟨ce701, hce701, hMe701, hcc701⟩ := Kd.S_get HO_11.out [] (ji65) p701 (by first | exact q701 | exact of_decide_eq_true (by first | (with_reducible assumption) | assumption) | (have e_ := (Kd.S_reads' HO_11.out).1; omega)); obtain ⟨ve701_0, rfl, ge701_0⟩ := hMe701; have hv701_0 := hcc701 0 _ rfl; rw [Nat.add_zero, show ((Kd.slice 3 (Kd.int .i64))).sz = 1 from rfl, Nat.mul_one] at hv701_0; replace hv701_0 := Option.some.inj (hv701_0.symm.trans hx701_0); rw [hv701_0] at ge701_0; have HL701_0 := Aside0.mk (show Kd.R (Kd.int .i64) 3 _ _ _ _ (rd_L1 t684 (ji65)) from ge701_0); clear hv701_0 ge701_0; clear hcc701 hce701; have HR701_0 := Aside0.mk hi701_0; have HC701_0 := Aside0.mk hl701_0; clear hi701_0 hl701_0; replace p701 := eq_true p701; replace q701 := eq_true q701; have ea_ := Option.some.inj (hx699_0.symm.trans hx701_0); injection ea_ with ea_ en_ ec_; subst ea_; subst ec_; clear en_; have p702 : 0 ≤ ((ji66) : Int) := of_decide_eq_true (by first | (with_reducible assumption) | assumption); have q702 : (ji66) < ((rd_L1 t684 (ji65)).length : Int) := of_decide_eq_true (by first | (with_reducible assumption) | assumption); obtain ⟨ad702, e702, hx702_0⟩ := Kd.at_int (by repeat (first | (with_reducible exact HR701_0.out) | (with_reducible refine Kd.C_alloc ?_ _) | (with_reducible refine Kd.C_drewN ?_ _) | (with_reducible refine Kd.C_drew ?_) | exact HR701_0.out)) (ji66) p702 q702; cases e702; replace p702 := eq_true p702; replace q702 := eq_true q702) | ((with_reducible refine gate_callee (f := 24) rfl ?_); refine goesL_ (some 219) rfl rfl Tryd.func24 (by kernel_rfl) rfl #[] rfl (by (try simp only [List.map_toArray, List.map_cons, List.map_nil]); first | done | rfl | (simp only [List.length_drop, List.length_take]; rfl)) ?_; (with_reducible refine (skewbaldlaw07_pressed.calls kj27  t704 _ ?side1 A87.out).mono ?_); (case side1 => exact Glob.below HGL.out (by repeat (first | (with_reducible first | exact HB.out | apply below_alloc | apply pw_below_drewN | apply below_drew1 | refine below_set ?_ GE674.out | refine below_set ?_ GE675.out) | exact HB.out))); rintro e w92 ⟨rfl, hb⟩; refine ⟨_, rfl, ?_⟩; have n0_ := Aside0.mk (Kd.S_below (by (with_reducible repeat (first | apply Kd.S_alloc | apply Kd.S_drewN | apply Kd.S_drew)); exact HO_11.out) hb); have n1_ := Aside0.mk (Kd.R_below (by (with_reducible repeat (first | apply Kd.R_alloc | apply Kd.R_drewN | apply Kd.R_drew)); exact HL699_0.out) hb); have n2_ := Aside0.mk (Kd.R_below (by (with_reducible repeat (first | apply Kd.R_alloc | apply Kd.R_drewN | apply Kd.R_drew)); exact HL701_0.out) hb); have n3_ := Aside0.mk (blk_below (g := gb674) (o := .cells #[.int .i64 a0_0, .slice A0_1 l0_1.length c0_1] 24 (0, 0)) (by (with_reducible repeat (first | refine blk_drewN ?_ _ | refine blk_drew ?_ | refine blk_alloc ?_ _)); exact BK674.out) hb); have n4_ := Aside0.mk (blk_below (g := gb675) (o := .cells #[.int .i64 a1_0, .int .i64 a1_1] 25 (0, 0)) (by (with_reducible repeat (first | refine blk_drewN ?_ _ | refine blk_drew ?_ | refine blk_alloc ?_ _)); exact BK675.out) hb); have n5_ := Aside0.mk (Kd.C_below (by repeat (first | (with_reducible exact HR699_0.out) | (with_reducible refine Kd.C_alloc ?_ _) | (with_reducible refine Kd.C_drewN ?_ _) | (with_reducible refine Kd.C_drew ?_) | exact HR699_0.out)) hb); have n6_ := Aside0.mk (Kd.C_below (by repeat (first | (with_reducible exact HR701_0.out) | (with_reducible refine Kd.C_alloc ?_ _) | (with_reducible refine Kd.C_drewN ?_ _) | (with_reducible refine Kd.C_drew ?_) | exact HR701_0.out)) hb); have n7_ := Aside0.mk (below_step (by repeat (first | (with_reducible first | exact HB.out | apply below_alloc | apply pw_below_drewN | apply below_drew1 | refine below_set ?_ GE674.out | refine below_set ?_ GE675.out) | exact HB.out)) hb); clear HO_11; clear HL699_0; clear HL701_0; clear BK674; clear BK675; clear HR699_0; clear HR701_0; clear HB; have HO_11 := n0_; have HL699_0 := n1_; have HL701_0 := n2_; have BK674 := n3_; have BK675 := n4_; have HR699_0 := n5_; have HR701_0 := n6_; have HB := n7_; clear n0_ n1_ n2_ n3_ n4_ n5_ n6_ n7_; (try clear hb); (try clear hb2); (try clear hk); (try clear hi)))
                        go_ret
                        exact ⟨by first | rfl | (rw [HE_.out]; done) | (simp [HE_.out]; done) | (simp [errW_none, errW_some] <;> rfl) | (simp only [← hji65, ← hji66]; first | rfl | (simp [errW_none, errW_some] <;> rfl)) | (simp [*, errW_none, errW_some] <;> rfl), by repeat (first | (with_reducible first | exact HB.out | apply below_alloc | apply pw_below_drewN | apply below_drew1 | refine below_set ?_ GE674.out | refine below_set ?_ GE675.out) | exact HB.out)⟩
                    ·rw [if_neg c77] at H
                     have c77b0 : (t681 == 0) = false := beq_eq_false_iff_ne.mpr c77
                     have c77b1 : (t681 != 0) = true := bne_iff_ne.mpr c77
                     exact absurd H (by simp)
                   ·rw [if_neg c76] at H
                    have c76b0 : ((rd (rd_L1 t684 (ji65)) (ji66)) == 2) = false := beq_eq_false_iff_ne.mpr c76
                    have c76b1 : ((rd (rd_L1 t684 (ji65)) (ji66)) != 2) = true := bne_iff_ne.mpr c76
                    replace H := Option.bind_eq_some_iff.mp H
                    obtain ⟨t705, A930, H⟩ := H
                    replace H : (some t705) = some true := H
                    have A93 := Aside0.mk A930
                    clear A930
                    as_aux_lemma =>
                     have HE_ := Aside0.mk (Option.some.inj H)
                     clear H
                     have hnb94 := NB674_675.out
                     have hnc94 := NB675_674.out
                     have hcz95_0 : wc.cell? ⟨gb674, 0, none⟩ = some (.int .i64 a0_0) := (blk_cell BK674.out 0).trans rfl
                     have hcz95_1 : wc.cell? ⟨gb674, 1, none⟩ = some (.slice A0_1 l0_1.length c0_1) := (blk_cell BK674.out 1).trans rfl
                     have hfz95_0 := blk_frozen BK674.out 0
                     have hfz95_1 := blk_frozen BK674.out 1
                     have hcz96_0 : wc.cell? ⟨gb675, 0, none⟩ = some (.int .i64 a1_0) := (blk_cell BK675.out 0).trans rfl
                     have hcz96_1 : wc.cell? ⟨gb675, 1, none⟩ = some (.int .i64 a1_1) := (blk_cell BK675.out 1).trans rfl
                     have hfz96_0 := blk_frozen BK675.out 0
                     have hfz96_1 := blk_frozen BK675.out 1
                     go_wp2_with (first | ((with_reducible refine gate_callee (f := 35) rfl ?_); refine goesL_ (some 154) rfl rfl Tryd.func35 (by kernel_rfl) rfl #[.agg #[.int .i64 a0_0, .slice A0_1 l0_1.length c0_1], .int .i64 a1_0, .int .i64 a1_1] rfl (by (try simp only [List.map_toArray, List.map_cons, List.map_nil]); first | done | rfl | (simp only [List.length_drop, List.length_take]; rfl)) ?_; (with_reducible refine (skewbaldlaw07_two.calls a0_0 _ _ l0_1 a1_0 a1_1 t697 t698 _ ?side1 ?side2 A64.out).mono ?_); (case side1 => repeat (first | exact (Kd.C_below HR0_1.out HB.out) | (with_reducible refine Kd.C_alloc ?_ _) | (with_reducible refine Kd.C_drewN ?_ _) | (with_reducible refine Kd.C_drew ?_))); (case side2 => exact HC0_1.out); rintro e w97 ⟨rfl, hb⟩; refine ⟨_, rfl, ?_⟩; have n0_ := Aside0.mk (Kd.S_below (by (with_reducible repeat (first | apply Kd.S_alloc | apply Kd.S_drewN | apply Kd.S_drew)); exact HO_11.out) hb); have n1_ := Aside0.mk (blk_below (g := gb674) (o := .cells #[.int .i64 a0_0, .slice A0_1 l0_1.length c0_1] 24 (0, 0)) (by (with_reducible repeat (first | refine blk_drewN ?_ _ | refine blk_drew ?_ | refine blk_alloc ?_ _)); exact BK674.out) hb); have n2_ := Aside0.mk (blk_below (g := gb675) (o := .cells #[.int .i64 a1_0, .int .i64 a1_1] 25 (0, 0)) (by (with_reducible repeat (first | refine blk_drewN ?_ _ | refine blk_drew ?_ | refine blk_alloc ?_ _)); exact BK675.out) hb); have n3_ := Aside0.mk (below_step (by repeat (first | (with_reducible first | exact HB.out | apply below_alloc | apply pw_below_drewN | apply below_drew1 | refine below_set ?_ GE674.out | refine below_set ?_ GE675.out) | exact HB.out)) hb); clear HO_11; clear BK674; clear BK675; clear HB; have HO_11 := n0_; have BK674 := n1_; have BK675 := n2_; have HB := n3_; clear n0_ n1_ n2_ n3_; (try clear hb); (try clear hb2); (try clear hk); (try clear hi); have p699 : 0 ≤ ((ji65) : Int) := of_decide_eq_true (by first | (with_reducible assumption) | assumption); have q699 : (ji65) < (t684.length : Int) := of_decide_eq_true (by first | (with_reducible assumption) | assumption); obtain ⟨ad699, A699_0, c699_0, e699, hx699_0, hl699_0, hi699_0⟩ := at_L1 (Kd.S_reads' HO_11.out).2.2 (ji65) p699 q699; cases e699; obtain ⟨ce699, hce699, hMe699, hcc699⟩ := Kd.S_get HO_11.out [] (ji65) p699 (by first | exact q699 | exact of_decide_eq_true (by first | (with_reducible assumption) | assumption) | (have e_ := (Kd.S_reads' HO_11.out).1; omega)); obtain ⟨ve699_0, rfl, ge699_0⟩ := hMe699; have hv699_0 := hcc699 0 _ rfl; rw [Nat.add_zero, show ((Kd.slice 3 (Kd.int .i64))).sz = 1 from rfl, Nat.mul_one] at hv699_0; replace hv699_0 := Option.some.inj (hv699_0.symm.trans hx699_0); rw [hv699_0] at ge699_0; have HL699_0 := Aside0.mk (show Kd.R (Kd.int .i64) 3 _ _ _ _ (rd_L1 t684 (ji65)) from ge699_0); clear hv699_0 ge699_0; clear hcc699 hce699; have HR699_0 := Aside0.mk hi699_0; have HC699_0 := Aside0.mk hl699_0; clear hi699_0 hl699_0; replace p699 := eq_true p699; replace q699 := eq_true q699; have p700 : 0 ≤ ((ji66) : Int) := of_decide_eq_true (by first | (with_reducible assumption) | assumption); have q700 : (ji66) < ((rd_L1 t684 (ji65)).length : Int) := of_decide_eq_true (by first | (with_reducible assumption) | assumption); obtain ⟨ad700, e700, hx700_0⟩ := Kd.at_int (by repeat (first | (with_reducible exact HR699_0.out) | (with_reducible refine Kd.C_alloc ?_ _) | (with_reducible refine Kd.C_drewN ?_ _) | (with_reducible refine Kd.C_drew ?_) | exact HR699_0.out)) (ji66) p700 q700; cases e700; replace p700 := eq_true p700; replace q700 := eq_true q700; have p701 : 0 ≤ ((ji65) : Int) := of_decide_eq_true (by first | (with_reducible assumption) | assumption); have q701 : (ji65) < (t684.length : Int) := of_decide_eq_true (by first | (with_reducible assumption) | assumption); obtain ⟨ad701, A701_0, c701_0, e701, hx701_0, hl701_0, hi701_0⟩ := at_L1 (Kd.S_reads' HO_11.out).2.2 (ji65) p701 q701; obtain rfl : ad699 = ad701 := (by injection e701); obtain ⟨ce701, hce701, hMe701, hcc701⟩ := Kd.S_get HO_11.out [] (ji65) p701 (by first | exact q701 | exact of_decide_eq_true (by first | (with_reducible assumption) | assumption) | (have e_ := (Kd.S_reads' HO_11.out).1; omega)); obtain ⟨ve701_0, rfl, ge701_0⟩ := hMe701; have hv701_0 := hcc701 0 _ rfl; rw [Nat.add_zero, show ((Kd.slice 3 (Kd.int .i64))).sz = 1 from rfl, Nat.mul_one] at hv701_0; replace hv701_0 := Option.some.inj (hv701_0.symm.trans hx701_0); rw [hv701_0] at ge701_0; have HL701_0 := Aside0.mk (show Kd.R (Kd.int .i64) 3 _ _ _ _ (rd_L1 t684 (ji65)) from ge701_0); clear hv701_0 ge701_0; clear hcc701 hce701; have HR701_0 := Aside0.mk hi701_0; have HC701_0 := Aside0.mk hl701_0; clear hi701_0 hl701_0; replace p701 := eq_true p701; replace q701 := eq_true q701; have ea_ := Option.some.inj (hx699_0.symm.trans hx701_0); injection ea_ with ea_ en_ ec_; subst ea_; subst ec_; clear en_; have p702 : 0 ≤ ((ji66) : Int) := of_decide_eq_true (by first | (with_reducible assumption) | assumption); have q702 : (ji66) < ((rd_L1 t684 (ji65)).length : Int) := of_decide_eq_true (by first | (with_reducible assumption) | assumption); obtain ⟨ad702, e702, hx702_0⟩ := Kd.at_int (by repeat (first | (with_reducible exact HR701_0.out) | (with_reducible refine Kd.C_alloc ?_ _) | (with_reducible refine Kd.C_drewN ?_ _) | (with_reducible refine Kd.C_drew ?_) | exact HR701_0.out)) (ji66) p702 q702; cases e702; replace p702 := eq_true p702; replace q702 := eq_true q702) | ((with_reducible refine gate_callee (f := 24) rfl ?_); refine goesL_ (some 219) rfl rfl Tryd.func24 (by kernel_rfl) rfl #[] rfl (by (try simp only [List.map_toArray, List.map_cons, List.map_nil]); first | done | rfl | (simp only [List.length_drop, List.length_take]; rfl)) ?_; (with_reducible refine (skewbaldlaw07_pressed.calls kj27  t705 _ ?side1 A93.out).mono ?_); (case side1 => exact Glob.below HGL.out (by repeat (first | (with_reducible first | exact HB.out | apply below_alloc | apply pw_below_drewN | apply below_drew1 | refine below_set ?_ GE674.out | refine below_set ?_ GE675.out) | exact HB.out))); rintro e w98 ⟨rfl, hb⟩; refine ⟨_, rfl, ?_⟩; have n0_ := Aside0.mk (Kd.S_below (by (with_reducible repeat (first | apply Kd.S_alloc | apply Kd.S_drewN | apply Kd.S_drew)); exact HO_11.out) hb); have n1_ := Aside0.mk (Kd.R_below (by (with_reducible repeat (first | apply Kd.R_alloc | apply Kd.R_drewN | apply Kd.R_drew)); exact HL699_0.out) hb); have n2_ := Aside0.mk (Kd.R_below (by (with_reducible repeat (first | apply Kd.R_alloc | apply Kd.R_drewN | apply Kd.R_drew)); exact HL701_0.out) hb); have n3_ := Aside0.mk (blk_below (g := gb674) (o := .cells #[.int .i64 a0_0, .slice A0_1 l0_1.length c0_1] 24 (0, 0)) (by (with_reducible repeat (first | refine blk_drewN ?_ _ | refine blk_drew ?_ | refine blk_alloc ?_ _)); exact BK674.out) hb); have n4_ := Aside0.mk (blk_below (g := gb675) (o := .cells #[.int .i64 a1_0, .int .i64 a1_1] 25 (0, 0)) (by (with_reducible repeat (first | refine blk_drewN ?_ _ | refine blk_drew ?_ | refine blk_alloc ?_ _)); exact BK675.out) hb); have n5_ := Aside0.mk (Kd.C_below (by repeat (first | (with_reducible exact HR699_0.out) | (with_reducible refine Kd.C_alloc ?_ _) | (with_reducible refine Kd.C_drewN ?_ _) | (with_reducible refine Kd.C_drew ?_) | exact HR699_0.out)) hb); have n6_ := Aside0.mk (Kd.C_below (by repeat (first | (with_reducible exact HR701_0.out) | (with_reducible refine Kd.C_alloc ?_ _) | (with_reducible refine Kd.C_drewN ?_ _) | (with_reducible refine Kd.C_drew ?_) | exact HR701_0.out)) hb); have n7_ := Aside0.mk (below_step (by repeat (first | (with_reducible first | exact HB.out | apply below_alloc | apply pw_below_drewN | apply below_drew1 | refine below_set ?_ GE674.out | refine below_set ?_ GE675.out) | exact HB.out)) hb); clear HO_11; clear HL699_0; clear HL701_0; clear BK674; clear BK675; clear HR699_0; clear HR701_0; clear HB; have HO_11 := n0_; have HL699_0 := n1_; have HL701_0 := n2_; have BK674 := n3_; have BK675 := n4_; have HR699_0 := n5_; have HR701_0 := n6_; have HB := n7_; clear n0_ n1_ n2_ n3_ n4_ n5_ n6_ n7_; (try clear hb); (try clear hb2); (try clear hk); (try clear hi)))
                     go_ret
                     exact ⟨by first | rfl | (rw [HE_.out]; done) | (simp [HE_.out]; done) | (simp [errW_none, errW_some] <;> rfl) | (simp only [← hji65, ← hji66]; first | rfl | (simp [errW_none, errW_some] <;> rfl)) | (simp [*, errW_none, errW_some] <;> rfl), by repeat (first | (with_reducible first | exact HB.out | apply below_alloc | apply pw_below_drewN | apply below_drew1 | refine below_set ?_ GE674.out | refine below_set ?_ GE675.out) | exact HB.out)⟩
                 ·rw [if_neg c74] at H
                  have c74b0 : (t676 == (ji65)) = false := beq_eq_false_iff_ne.mpr c74
                  have c74b1 : (t676 != (ji65)) = true := bne_iff_ne.mpr c74
                  by_cases c99 : (rd (rd_L1 t684 (ji65)) (ji66)) = 2
                  ·rw [if_pos c99] at H
                   have c99b0 : ((rd (rd_L1 t684 (ji65)) (ji66)) == 2) = true := beq_iff_eq.mpr c99
                   have c99b1 : ((rd (rd_L1 t684 (ji65)) (ji66)) != 2) = false := bne_eq_false_iff_eq.mpr c99
                   clear c99
                   by_cases c100 : t681 = 0
                   ·rw [if_pos c100] at H
                    have c100b0 : (t681 == 0) = true := beq_iff_eq.mpr c100
                    have c100b1 : (t681 != 0) = false := bne_eq_false_iff_eq.mpr c100
                    clear c100
                    by_cases c101 : t679 > (ji65)
                    ·rw [if_pos c101] at H
                     have c101b0 : decide ((ji65) < t679) = true := decide_eq_true c101
                     clear c101
                     exact absurd H (by simp)
                    ·rw [if_neg c101] at H
                     have c101b0 : decide ((ji65) < t679) = false := decide_eq_false c101
                     clear c101
                     by_cases c102 : t679 = (ji65)
                     ·rw [if_pos c102] at H
                      have c102b0 : (t679 == (ji65)) = true := beq_iff_eq.mpr c102
                      have c102b1 : (t679 != (ji65)) = false := bne_eq_false_iff_eq.mpr c102
                      clear c102
                      by_cases c103 : t680 > (ji66)
                      ·rw [if_pos c103] at H
                       have c103b0 : decide ((ji66) < t680) = true := decide_eq_true c103
                       clear c103
                       exact absurd H (by simp)
                      ·rw [if_neg c103] at H
                       have c103b0 : decide ((ji66) < t680) = false := decide_eq_false c103
                       clear c103
                       replace H := Option.bind_eq_some_iff.mp H
                       obtain ⟨t708, A1040, H⟩ := H
                       replace H : (some t708) = some true := H
                       have A104 := Aside0.mk A1040
                       clear A1040
                       as_aux_lemma =>
                        have HE_ := Aside0.mk (Option.some.inj H)
                        clear H
                        have hnb105 := NB674_675.out
                        have hnc105 := NB675_674.out
                        have hcz106_0 : wc.cell? ⟨gb674, 0, none⟩ = some (.int .i64 a0_0) := (blk_cell BK674.out 0).trans rfl
                        have hcz106_1 : wc.cell? ⟨gb674, 1, none⟩ = some (.slice A0_1 l0_1.length c0_1) := (blk_cell BK674.out 1).trans rfl
                        have hfz106_0 := blk_frozen BK674.out 0
                        have hfz106_1 := blk_frozen BK674.out 1
                        have hcz107_0 : wc.cell? ⟨gb675, 0, none⟩ = some (.int .i64 a1_0) := (blk_cell BK675.out 0).trans rfl
                        have hcz107_1 : wc.cell? ⟨gb675, 1, none⟩ = some (.int .i64 a1_1) := (blk_cell BK675.out 1).trans rfl
                        have hfz107_0 := blk_frozen BK675.out 0
                        have hfz107_1 := blk_frozen BK675.out 1
                        go_wp2_with (first | ((with_reducible refine gate_callee (f := 35) rfl ?_); refine goesL_ (some 154) rfl rfl Tryd.func35 (by kernel_rfl) rfl #[.agg #[.int .i64 a0_0, .slice A0_1 l0_1.length c0_1], .int .i64 a1_0, .int .i64 a1_1] rfl (by (try simp only [List.map_toArray, List.map_cons, List.map_nil]); first | done | rfl | (simp only [List.length_drop, List.length_take]; rfl)) ?_; (with_reducible refine (skewbaldlaw07_two.calls a0_0 _ _ l0_1 a1_0 a1_1 t697 t698 _ ?side1 ?side2 A64.out).mono ?_); (case side1 => repeat (first | exact (Kd.C_below HR0_1.out HB.out) | (with_reducible refine Kd.C_alloc ?_ _) | (with_reducible refine Kd.C_drewN ?_ _) | (with_reducible refine Kd.C_drew ?_))); (case side2 => exact HC0_1.out); rintro e w108 ⟨rfl, hb⟩; refine ⟨_, rfl, ?_⟩; have n0_ := Aside0.mk (Kd.S_below (by (with_reducible repeat (first | apply Kd.S_alloc | apply Kd.S_drewN | apply Kd.S_drew)); exact HO_11.out) hb); have n1_ := Aside0.mk (blk_below (g := gb674) (o := .cells #[.int .i64 a0_0, .slice A0_1 l0_1.length c0_1] 24 (0, 0)) (by (with_reducible repeat (first | refine blk_drewN ?_ _ | refine blk_drew ?_ | refine blk_alloc ?_ _)); exact BK674.out) hb); have n2_ := Aside0.mk (blk_below (g := gb675) (o := .cells #[.int .i64 a1_0, .int .i64 a1_1] 25 (0, 0)) (by (with_reducible repeat (first | refine blk_drewN ?_ _ | refine blk_drew ?_ | refine blk_alloc ?_ _)); exact BK675.out) hb); have n3_ := Aside0.mk (below_step (by repeat (first | (with_reducible first | exact HB.out | apply below_alloc | apply pw_below_drewN | apply below_drew1 | refine below_set ?_ GE674.out | refine below_set ?_ GE675.out) | exact HB.out)) hb); clear HO_11; clear BK674; clear BK675; clear HB; have HO_11 := n0_; have BK674 := n1_; have BK675 := n2_; have HB := n3_; clear n0_ n1_ n2_ n3_; (try clear hb); (try clear hb2); (try clear hk); (try clear hi); have p699 : 0 ≤ ((ji65) : Int) := of_decide_eq_true (by first | (with_reducible assumption) | assumption); have q699 : (ji65) < (t684.length : Int) := of_decide_eq_true (by first | (with_reducible assumption) | assumption); obtain ⟨ad699, A699_0, c699_0, e699, hx699_0, hl699_0, hi699_0⟩ := at_L1 (Kd.S_reads' HO_11.out).2.2 (ji65) p699 q699; cases e699; obtain ⟨ce699, hce699, hMe699, hcc699⟩ := Kd.S_get HO_11.out [] (ji65) p699 (by first | exact q699 | exact of_decide_eq_true (by first | (with_reducible assumption) | assumption) | (have e_ := (Kd.S_reads' HO_11.out).1; omega)); obtain ⟨ve699_0, rfl, ge699_0⟩ := hMe699; have hv699_0 := hcc699 0 _ rfl; rw [Nat.add_zero, show ((Kd.slice 3 (Kd.int .i64))).sz = 1 from rfl, Nat.mul_one] at hv699_0; replace hv699_0 := Option.some.inj (hv699_0.symm.trans hx699_0); rw [hv699_0] at ge699_0; have HL699_0 := Aside0.mk (show Kd.R (Kd.int .i64) 3 _ _ _ _ (rd_L1 t684 (ji65)) from ge699_0); clear hv699_0 ge699_0; clear hcc699 hce699; have HR699_0 := Aside0.mk hi699_0; have HC699_0 := Aside0.mk hl699_0; clear hi699_0 hl699_0; replace p699 := eq_true p699; replace q699 := eq_true q699; have p700 : 0 ≤ ((ji66) : Int) := of_decide_eq_true (by first | (with_reducible assumption) | assumption); have q700 : (ji66) < ((rd_L1 t684 (ji65)).length : Int) := of_decide_eq_true (by first | (with_reducible assumption) | assumption); obtain ⟨ad700, e700, hx700_0⟩ := Kd.at_int (by repeat (first | (with_reducible exact HR699_0.out) | (with_reducible refine Kd.C_alloc ?_ _) | (with_reducible refine Kd.C_drewN ?_ _) | (with_reducible refine Kd.C_drew ?_) | exact HR699_0.out)) (ji66) p700 q700; cases e700; replace p700 := eq_true p700; replace q700 := eq_true q700; have p706 : 0 ≤ ((ji65) : Int) := of_decide_eq_true (by first | (with_reducible assumption) | assumption); have q706 : (ji65) < (t684.length : Int) := of_decide_eq_true (by first | (with_reducible assumption) | assumption); obtain ⟨ad706, A706_0, c706_0, e706, hx706_0, hl706_0, hi706_0⟩ := at_L1 (Kd.S_reads' HO_11.out).2.2 (ji65) p706 q706; obtain rfl : ad699 = ad706 := (by injection e706); obtain ⟨ce706, hce706, hMe706, hcc706⟩ := Kd.S_get HO_11.out [] (ji65) p706 (by first | exact q706 | exact of_decide_eq_true (by first | (with_reducible assumption) | assumption) | (have e_ := (Kd.S_reads' HO_11.out).1; omega)); obtain ⟨ve706_0, rfl, ge706_0⟩ := hMe706; have hv706_0 := hcc706 0 _ rfl; rw [Nat.add_zero, show ((Kd.slice 3 (Kd.int .i64))).sz = 1 from rfl, Nat.mul_one] at hv706_0; replace hv706_0 := Option.some.inj (hv706_0.symm.trans hx706_0); rw [hv706_0] at ge706_0; have HL706_0 := Aside0.mk (show Kd.R (Kd.int .i64) 3 _ _ _ _ (rd_L1 t684 (ji65)) from ge706_0); clear hv706_0 ge706_0; clear hcc706 hce706; have HR706_0 := Aside0.mk hi706_0; have HC706_0 := Aside0.mk hl706_0; clear hi706_0 hl706_0; replace p706 := eq_true p706; replace q706 := eq_true q706; have ea_ := Option.some.inj (hx699_0.symm.trans hx706_0); injection ea_ with ea_ en_ ec_; subst ea_; subst ec_; clear en_; have p707 : 0 ≤ ((ji66) : Int) := of_decide_eq_true (by first | (with_reducible assumption) | assumption); have q707 : (ji66) < ((rd_L1 t684 (ji65)).length : Int) := of_decide_eq_true (by first | (with_reducible assumption) | assumption); obtain ⟨ad707, e707, hx707_0⟩ := Kd.at_int (by repeat (first | (with_reducible exact HR706_0.out) | (with_reducible refine Kd.C_alloc ?_ _) | (with_reducible refine Kd.C_drewN ?_ _) | (with_reducible refine Kd.C_drew ?_) | exact HR706_0.out)) (ji66) p707 q707; cases e707; replace p707 := eq_true p707; replace q707 := eq_true q707) | ((with_reducible refine gate_callee (f := 24) rfl ?_); refine goesL_ (some 219) rfl rfl Tryd.func24 (by kernel_rfl) rfl #[] rfl (by (try simp only [List.map_toArray, List.map_cons, List.map_nil]); first | done | rfl | (simp only [List.length_drop, List.length_take]; rfl)) ?_; (with_reducible refine (skewbaldlaw07_pressed.calls kj27  t708 _ ?side1 A104.out).mono ?_); (case side1 => exact Glob.below HGL.out (by repeat (first | (with_reducible first | exact HB.out | apply below_alloc | apply pw_below_drewN | apply below_drew1 | refine below_set ?_ GE674.out | refine below_set ?_ GE675.out) | exact HB.out))); rintro e w109 ⟨rfl, hb⟩; refine ⟨_, rfl, ?_⟩; have n0_ := Aside0.mk (Kd.S_below (by (with_reducible repeat (first | apply Kd.S_alloc | apply Kd.S_drewN | apply Kd.S_drew)); exact HO_11.out) hb); have n1_ := Aside0.mk (Kd.R_below (by (with_reducible repeat (first | apply Kd.R_alloc | apply Kd.R_drewN | apply Kd.R_drew)); exact HL699_0.out) hb); have n2_ := Aside0.mk (Kd.R_below (by (with_reducible repeat (first | apply Kd.R_alloc | apply Kd.R_drewN | apply Kd.R_drew)); exact HL706_0.out) hb); have n3_ := Aside0.mk (blk_below (g := gb674) (o := .cells #[.int .i64 a0_0, .slice A0_1 l0_1.length c0_1] 24 (0, 0)) (by (with_reducible repeat (first | refine blk_drewN ?_ _ | refine blk_drew ?_ | refine blk_alloc ?_ _)); exact BK674.out) hb); have n4_ := Aside0.mk (blk_below (g := gb675) (o := .cells #[.int .i64 a1_0, .int .i64 a1_1] 25 (0, 0)) (by (with_reducible repeat (first | refine blk_drewN ?_ _ | refine blk_drew ?_ | refine blk_alloc ?_ _)); exact BK675.out) hb); have n5_ := Aside0.mk (Kd.C_below (by repeat (first | (with_reducible exact HR699_0.out) | (with_reducible refine Kd.C_alloc ?_ _) | (with_reducible refine Kd.C_drewN ?_ _) | (with_reducible refine Kd.C_drew ?_) | exact HR699_0.out)) hb); have n6_ := Aside0.mk (Kd.C_below (by repeat (first | (with_reducible exact HR706_0.out) | (with_reducible refine Kd.C_alloc ?_ _) | (with_reducible refine Kd.C_drewN ?_ _) | (with_reducible refine Kd.C_drew ?_) | exact HR706_0.out)) hb); have n7_ := Aside0.mk (below_step (by repeat (first | (with_reducible first | exact HB.out | apply below_alloc | apply pw_below_drewN | apply below_drew1 | refine below_set ?_ GE674.out | refine below_set ?_ GE675.out) | exact HB.out)) hb); clear HO_11; clear HL699_0; clear HL706_0; clear BK674; clear BK675; clear HR699_0; clear HR706_0; clear HB; have HO_11 := n0_; have HL699_0 := n1_; have HL706_0 := n2_; have BK674 := n3_; have BK675 := n4_; have HR699_0 := n5_; have HR706_0 := n6_; have HB := n7_; clear n0_ n1_ n2_ n3_ n4_ n5_ n6_ n7_; (try clear hb); (try clear hb2); (try clear hk); (try clear hi)))
                        go_ret
                        exact ⟨by first | rfl | (rw [HE_.out]; done) | (simp [HE_.out]; done) | (simp [errW_none, errW_some] <;> rfl) | (simp only [← hji65, ← hji66]; first | rfl | (simp [errW_none, errW_some] <;> rfl)) | (simp [*, errW_none, errW_some] <;> rfl), by repeat (first | (with_reducible first | exact HB.out | apply below_alloc | apply pw_below_drewN | apply below_drew1 | refine below_set ?_ GE674.out | refine below_set ?_ GE675.out) | exact HB.out)⟩
                     ·rw [if_neg c102] at H
                      have c102b0 : (t679 == (ji65)) = false := beq_eq_false_iff_ne.mpr c102
                      have c102b1 : (t679 != (ji65)) = true := bne_iff_ne.mpr c102
                      replace H := Option.bind_eq_some_iff.mp H
                      obtain ⟨t709, A1100, H⟩ := H
                      replace H : (some t709) = some true := H
                      have A110 := Aside0.mk A1100
                      clear A1100
                      as_aux_lemma =>
                       have HE_ := Aside0.mk (Option.some.inj H)
                       clear H
                       have hnb111 := NB674_675.out
                       have hnc111 := NB675_674.out
                       have hcz112_0 : wc.cell? ⟨gb674, 0, none⟩ = some (.int .i64 a0_0) := (blk_cell BK674.out 0).trans rfl
                       have hcz112_1 : wc.cell? ⟨gb674, 1, none⟩ = some (.slice A0_1 l0_1.length c0_1) := (blk_cell BK674.out 1).trans rfl
                       have hfz112_0 := blk_frozen BK674.out 0
                       have hfz112_1 := blk_frozen BK674.out 1
                       have hcz113_0 : wc.cell? ⟨gb675, 0, none⟩ = some (.int .i64 a1_0) := (blk_cell BK675.out 0).trans rfl
                       have hcz113_1 : wc.cell? ⟨gb675, 1, none⟩ = some (.int .i64 a1_1) := (blk_cell BK675.out 1).trans rfl
                       have hfz113_0 := blk_frozen BK675.out 0
                       have hfz113_1 := blk_frozen BK675.out 1
                       go_wp2_with (first | ((with_reducible refine gate_callee (f := 35) rfl ?_); refine goesL_ (some 154) rfl rfl Tryd.func35 (by kernel_rfl) rfl #[.agg #[.int .i64 a0_0, .slice A0_1 l0_1.length c0_1], .int .i64 a1_0, .int .i64 a1_1] rfl (by (try simp only [List.map_toArray, List.map_cons, List.map_nil]); first | done | rfl | (simp only [List.length_drop, List.length_take]; rfl)) ?_; (with_reducible refine (skewbaldlaw07_two.calls a0_0 _ _ l0_1 a1_0 a1_1 t697 t698 _ ?side1 ?side2 A64.out).mono ?_); (case side1 => repeat (first | exact (Kd.C_below HR0_1.out HB.out) | (with_reducible refine Kd.C_alloc ?_ _) | (with_reducible refine Kd.C_drewN ?_ _) | (with_reducible refine Kd.C_drew ?_))); (case side2 => exact HC0_1.out); rintro e w114 ⟨rfl, hb⟩; refine ⟨_, rfl, ?_⟩; have n0_ := Aside0.mk (Kd.S_below (by (with_reducible repeat (first | apply Kd.S_alloc | apply Kd.S_drewN | apply Kd.S_drew)); exact HO_11.out) hb); have n1_ := Aside0.mk (blk_below (g := gb674) (o := .cells #[.int .i64 a0_0, .slice A0_1 l0_1.length c0_1] 24 (0, 0)) (by (with_reducible repeat (first | refine blk_drewN ?_ _ | refine blk_drew ?_ | refine blk_alloc ?_ _)); exact BK674.out) hb); have n2_ := Aside0.mk (blk_below (g := gb675) (o := .cells #[.int .i64 a1_0, .int .i64 a1_1] 25 (0, 0)) (by (with_reducible repeat (first | refine blk_drewN ?_ _ | refine blk_drew ?_ | refine blk_alloc ?_ _)); exact BK675.out) hb); have n3_ := Aside0.mk (below_step (by repeat (first | (with_reducible first | exact HB.out | apply below_alloc | apply pw_below_drewN | apply below_drew1 | refine below_set ?_ GE674.out | refine below_set ?_ GE675.out) | exact HB.out)) hb); clear HO_11; clear BK674; clear BK675; clear HB; have HO_11 := n0_; have BK674 := n1_; have BK675 := n2_; have HB := n3_; clear n0_ n1_ n2_ n3_; (try clear hb); (try clear hb2); (try clear hk); (try clear hi); have p699 : 0 ≤ ((ji65) : Int) := of_decide_eq_true (by first | (with_reducible assumption) | assumption); have q699 : (ji65) < (t684.length : Int) := of_decide_eq_true (by first | (with_reducible assumption) | assumption); obtain ⟨ad699, A699_0, c699_0, e699, hx699_0, hl699_0, hi699_0⟩ := at_L1 (Kd.S_reads' HO_11.out).2.2 (ji65) p699 q699; cases e699; obtain ⟨ce699, hce699, hMe699, hcc699⟩ := Kd.S_get HO_11.out [] (ji65) p699 (by first | exact q699 | exact of_decide_eq_true (by first | (with_reducible assumption) | assumption) | (have e_ := (Kd.S_reads' HO_11.out).1; omega)); obtain ⟨ve699_0, rfl, ge699_0⟩ := hMe699; have hv699_0 := hcc699 0 _ rfl; rw [Nat.add_zero, show ((Kd.slice 3 (Kd.int .i64))).sz = 1 from rfl, Nat.mul_one] at hv699_0; replace hv699_0 := Option.some.inj (hv699_0.symm.trans hx699_0); rw [hv699_0] at ge699_0; have HL699_0 := Aside0.mk (show Kd.R (Kd.int .i64) 3 _ _ _ _ (rd_L1 t684 (ji65)) from ge699_0); clear hv699_0 ge699_0; clear hcc699 hce699; have HR699_0 := Aside0.mk hi699_0; have HC699_0 := Aside0.mk hl699_0; clear hi699_0 hl699_0; replace p699 := eq_true p699; replace q699 := eq_true q699; have p700 : 0 ≤ ((ji66) : Int) := of_decide_eq_true (by first | (with_reducible assumption) | assumption); have q700 : (ji66) < ((rd_L1 t684 (ji65)).length : Int) := of_decide_eq_true (by first | (with_reducible assumption) | assumption); obtain ⟨ad700, e700, hx700_0⟩ := Kd.at_int (by repeat (first | (with_reducible exact HR699_0.out) | (with_reducible refine Kd.C_alloc ?_ _) | (with_reducible refine Kd.C_drewN ?_ _) | (with_reducible refine Kd.C_drew ?_) | exact HR699_0.out)) (ji66) p700 q700; cases e700; replace p700 := eq_true p700; replace q700 := eq_true q700; have p706 : 0 ≤ ((ji65) : Int) := of_decide_eq_true (by first | (with_reducible assumption) | assumption); have q706 : (ji65) < (t684.length : Int) := of_decide_eq_true (by first | (with_reducible assumption) | assumption); obtain ⟨ad706, A706_0, c706_0, e706, hx706_0, hl706_0, hi706_0⟩ := at_L1 (Kd.S_reads' HO_11.out).2.2 (ji65) p706 q706; obtain rfl : ad699 = ad706 := (by injection e706); obtain ⟨ce706, hce706, hMe706, hcc706⟩ := Kd.S_get HO_11.out [] (ji65) p706 (by first | exact q706 | exact of_decide_eq_true (by first | (with_reducible assumption) | assumption) | (have e_ := (Kd.S_reads' HO_11.out).1; omega)); obtain ⟨ve706_0, rfl, ge706_0⟩ := hMe706; have hv706_0 := hcc706 0 _ rfl; rw [Nat.add_zero, show ((Kd.slice 3 (Kd.int .i64))).sz = 1 from rfl, Nat.mul_one] at hv706_0; replace hv706_0 := Option.some.inj (hv706_0.symm.trans hx706_0); rw [hv706_0] at ge706_0; have HL706_0 := Aside0.mk (show Kd.R (Kd.int .i64) 3 _ _ _ _ (rd_L1 t684 (ji65)) from ge706_0); clear hv706_0 ge706_0; clear hcc706 hce706; have HR706_0 := Aside0.mk hi706_0; have HC706_0 := Aside0.mk hl706_0; clear hi706_0 hl706_0; replace p706 := eq_true p706; replace q706 := eq_true q706; have ea_ := Option.some.inj (hx699_0.symm.trans hx706_0); injection ea_ with ea_ en_ ec_; subst ea_; subst ec_; clear en_; have p707 : 0 ≤ ((ji66) : Int) := of_decide_eq_true (by first | (with_reducible assumption) | assumption); have q707 : (ji66) < ((rd_L1 t684 (ji65)).length : Int) := of_decide_eq_true (by first | (with_reducible assumption) | assumption); obtain ⟨ad707, e707, hx707_0⟩ := Kd.at_int (by repeat (first | (with_reducible exact HR706_0.out) | (with_reducible refine Kd.C_alloc ?_ _) | (with_reducible refine Kd.C_drewN ?_ _) | (with_reducible refine Kd.C_drew ?_) | exact HR706_0.out)) (ji66) p707 q707; cases e707; replace p707 := eq_true p707; replace q707 := eq_true q707) | ((with_reducible refine gate_callee (f := 24) rfl ?_); refine goesL_ (some 219) rfl rfl Tryd.func24 (by kernel_rfl) rfl #[] rfl (by (try simp only [List.map_toArray, List.map_cons, List.map_nil]); first | done | rfl | (simp only [List.length_drop, List.length_take]; rfl)) ?_; (with_reducible refine (skewbaldlaw07_pressed.calls kj27  t709 _ ?side1 A110.out).mono ?_); (case side1 => exact Glob.below HGL.out (by repeat (first | (with_reducible first | exact HB.out | apply below_alloc | apply pw_below_drewN | apply below_drew1 | refine below_set ?_ GE674.out | refine below_set ?_ GE675.out) | exact HB.out))); rintro e w115 ⟨rfl, hb⟩; refine ⟨_, rfl, ?_⟩; have n0_ := Aside0.mk (Kd.S_below (by (with_reducible repeat (first | apply Kd.S_alloc | apply Kd.S_drewN | apply Kd.S_drew)); exact HO_11.out) hb); have n1_ := Aside0.mk (Kd.R_below (by (with_reducible repeat (first | apply Kd.R_alloc | apply Kd.R_drewN | apply Kd.R_drew)); exact HL699_0.out) hb); have n2_ := Aside0.mk (Kd.R_below (by (with_reducible repeat (first | apply Kd.R_alloc | apply Kd.R_drewN | apply Kd.R_drew)); exact HL706_0.out) hb); have n3_ := Aside0.mk (blk_below (g := gb674) (o := .cells #[.int .i64 a0_0, .slice A0_1 l0_1.length c0_1] 24 (0, 0)) (by (with_reducible repeat (first | refine blk_drewN ?_ _ | refine blk_drew ?_ | refine blk_alloc ?_ _)); exact BK674.out) hb); have n4_ := Aside0.mk (blk_below (g := gb675) (o := .cells #[.int .i64 a1_0, .int .i64 a1_1] 25 (0, 0)) (by (with_reducible repeat (first | refine blk_drewN ?_ _ | refine blk_drew ?_ | refine blk_alloc ?_ _)); exact BK675.out) hb); have n5_ := Aside0.mk (Kd.C_below (by repeat (first | (with_reducible exact HR699_0.out) | (with_reducible refine Kd.C_alloc ?_ _) | (with_reducible refine Kd.C_drewN ?_ _) | (with_reducible refine Kd.C_drew ?_) | exact HR699_0.out)) hb); have n6_ := Aside0.mk (Kd.C_below (by repeat (first | (with_reducible exact HR706_0.out) | (with_reducible refine Kd.C_alloc ?_ _) | (with_reducible refine Kd.C_drewN ?_ _) | (with_reducible refine Kd.C_drew ?_) | exact HR706_0.out)) hb); have n7_ := Aside0.mk (below_step (by repeat (first | (with_reducible first | exact HB.out | apply below_alloc | apply pw_below_drewN | apply below_drew1 | refine below_set ?_ GE674.out | refine below_set ?_ GE675.out) | exact HB.out)) hb); clear HO_11; clear HL699_0; clear HL706_0; clear BK674; clear BK675; clear HR699_0; clear HR706_0; clear HB; have HO_11 := n0_; have HL699_0 := n1_; have HL706_0 := n2_; have BK674 := n3_; have BK675 := n4_; have HR699_0 := n5_; have HR706_0 := n6_; have HB := n7_; clear n0_ n1_ n2_ n3_ n4_ n5_ n6_ n7_; (try clear hb); (try clear hb2); (try clear hk); (try clear hi)))
                       go_ret
                       exact ⟨by first | rfl | (rw [HE_.out]; done) | (simp [HE_.out]; done) | (simp [errW_none, errW_some] <;> rfl) | (simp only [← hji65, ← hji66]; first | rfl | (simp [errW_none, errW_some] <;> rfl)) | (simp [*, errW_none, errW_some] <;> rfl), by repeat (first | (with_reducible first | exact HB.out | apply below_alloc | apply pw_below_drewN | apply below_drew1 | refine below_set ?_ GE674.out | refine below_set ?_ GE675.out) | exact HB.out)⟩
                   ·rw [if_neg c100] at H
                    have c100b0 : (t681 == 0) = false := beq_eq_false_iff_ne.mpr c100
                    have c100b1 : (t681 != 0) = true := bne_iff_ne.mpr c100
                    exact absurd H (by simp)
                  ·rw [if_neg c99] at H
                   have c99b0 : ((rd (rd_L1 t684 (ji65)) (ji66)) == 2) = false := beq_eq_false_iff_ne.mpr c99
                   have c99b1 : ((rd (rd_L1 t684 (ji65)) (ji66)) != 2) = true := bne_iff_ne.mpr c99
                   replace H := Option.bind_eq_some_iff.mp H
                   obtain ⟨t710, A1160, H⟩ := H
                   replace H : (some t710) = some true := H
                   have A116 := Aside0.mk A1160
                   clear A1160
                   as_aux_lemma =>
                    have HE_ := Aside0.mk (Option.some.inj H)
                    clear H
                    have hnb117 := NB674_675.out
                    have hnc117 := NB675_674.out
                    have hcz118_0 : wc.cell? ⟨gb674, 0, none⟩ = some (.int .i64 a0_0) := (blk_cell BK674.out 0).trans rfl
                    have hcz118_1 : wc.cell? ⟨gb674, 1, none⟩ = some (.slice A0_1 l0_1.length c0_1) := (blk_cell BK674.out 1).trans rfl
                    have hfz118_0 := blk_frozen BK674.out 0
                    have hfz118_1 := blk_frozen BK674.out 1
                    have hcz119_0 : wc.cell? ⟨gb675, 0, none⟩ = some (.int .i64 a1_0) := (blk_cell BK675.out 0).trans rfl
                    have hcz119_1 : wc.cell? ⟨gb675, 1, none⟩ = some (.int .i64 a1_1) := (blk_cell BK675.out 1).trans rfl
                    have hfz119_0 := blk_frozen BK675.out 0
                    have hfz119_1 := blk_frozen BK675.out 1
                    go_wp2_with (first | ((with_reducible refine gate_callee (f := 35) rfl ?_); refine goesL_ (some 154) rfl rfl Tryd.func35 (by kernel_rfl) rfl #[.agg #[.int .i64 a0_0, .slice A0_1 l0_1.length c0_1], .int .i64 a1_0, .int .i64 a1_1] rfl (by (try simp only [List.map_toArray, List.map_cons, List.map_nil]); first | done | rfl | (simp only [List.length_drop, List.length_take]; rfl)) ?_; (with_reducible refine (skewbaldlaw07_two.calls a0_0 _ _ l0_1 a1_0 a1_1 t697 t698 _ ?side1 ?side2 A64.out).mono ?_); (case side1 => repeat (first | exact (Kd.C_below HR0_1.out HB.out) | (with_reducible refine Kd.C_alloc ?_ _) | (with_reducible refine Kd.C_drewN ?_ _) | (with_reducible refine Kd.C_drew ?_))); (case side2 => exact HC0_1.out); rintro e w120 ⟨rfl, hb⟩; refine ⟨_, rfl, ?_⟩; have n0_ := Aside0.mk (Kd.S_below (by (with_reducible repeat (first | apply Kd.S_alloc | apply Kd.S_drewN | apply Kd.S_drew)); exact HO_11.out) hb); have n1_ := Aside0.mk (blk_below (g := gb674) (o := .cells #[.int .i64 a0_0, .slice A0_1 l0_1.length c0_1] 24 (0, 0)) (by (with_reducible repeat (first | refine blk_drewN ?_ _ | refine blk_drew ?_ | refine blk_alloc ?_ _)); exact BK674.out) hb); have n2_ := Aside0.mk (blk_below (g := gb675) (o := .cells #[.int .i64 a1_0, .int .i64 a1_1] 25 (0, 0)) (by (with_reducible repeat (first | refine blk_drewN ?_ _ | refine blk_drew ?_ | refine blk_alloc ?_ _)); exact BK675.out) hb); have n3_ := Aside0.mk (below_step (by repeat (first | (with_reducible first | exact HB.out | apply below_alloc | apply pw_below_drewN | apply below_drew1 | refine below_set ?_ GE674.out | refine below_set ?_ GE675.out) | exact HB.out)) hb); clear HO_11; clear BK674; clear BK675; clear HB; have HO_11 := n0_; have BK674 := n1_; have BK675 := n2_; have HB := n3_; clear n0_ n1_ n2_ n3_; (try clear hb); (try clear hb2); (try clear hk); (try clear hi); have p699 : 0 ≤ ((ji65) : Int) := of_decide_eq_true (by first | (with_reducible assumption) | assumption); have q699 : (ji65) < (t684.length : Int) := of_decide_eq_true (by first | (with_reducible assumption) | assumption); obtain ⟨ad699, A699_0, c699_0, e699, hx699_0, hl699_0, hi699_0⟩ := at_L1 (Kd.S_reads' HO_11.out).2.2 (ji65) p699 q699; cases e699; obtain ⟨ce699, hce699, hMe699, hcc699⟩ := Kd.S_get HO_11.out [] (ji65) p699 (by first | exact q699 | exact of_decide_eq_true (by first | (with_reducible assumption) | assumption) | (have e_ := (Kd.S_reads' HO_11.out).1; omega)); obtain ⟨ve699_0, rfl, ge699_0⟩ := hMe699; have hv699_0 := hcc699 0 _ rfl; rw [Nat.add_zero, show ((Kd.slice 3 (Kd.int .i64))).sz = 1 from rfl, Nat.mul_one] at hv699_0; replace hv699_0 := Option.some.inj (hv699_0.symm.trans hx699_0); rw [hv699_0] at ge699_0; have HL699_0 := Aside0.mk (show Kd.R (Kd.int .i64) 3 _ _ _ _ (rd_L1 t684 (ji65)) from ge699_0); clear hv699_0 ge699_0; clear hcc699 hce699; have HR699_0 := Aside0.mk hi699_0; have HC699_0 := Aside0.mk hl699_0; clear hi699_0 hl699_0; replace p699 := eq_true p699; replace q699 := eq_true q699; have p700 : 0 ≤ ((ji66) : Int) := of_decide_eq_true (by first | (with_reducible assumption) | assumption); have q700 : (ji66) < ((rd_L1 t684 (ji65)).length : Int) := of_decide_eq_true (by first | (with_reducible assumption) | assumption); obtain ⟨ad700, e700, hx700_0⟩ := Kd.at_int (by repeat (first | (with_reducible exact HR699_0.out) | (with_reducible refine Kd.C_alloc ?_ _) | (with_reducible refine Kd.C_drewN ?_ _) | (with_reducible refine Kd.C_drew ?_) | exact HR699_0.out)) (ji66) p700 q700; cases e700; replace p700 := eq_true p700; replace q700 := eq_true q700; have p706 : 0 ≤ ((ji65) : Int) := of_decide_eq_true (by first | (with_reducible assumption) | assumption); have q706 : (ji65) < (t684.length : Int) := of_decide_eq_true (by first | (with_reducible assumption) | assumption); obtain ⟨ad706, A706_0, c706_0, e706, hx706_0, hl706_0, hi706_0⟩ := at_L1 (Kd.S_reads' HO_11.out).2.2 (ji65) p706 q706; obtain rfl : ad699 = ad706 := (by injection e706); obtain ⟨ce706, hce706, hMe706, hcc706⟩ := Kd.S_get HO_11.out [] (ji65) p706 (by first | exact q706 | exact of_decide_eq_true (by first | (with_reducible assumption) | assumption) | (have e_ := (Kd.S_reads' HO_11.out).1; omega)); obtain ⟨ve706_0, rfl, ge706_0⟩ := hMe706; have hv706_0 := hcc706 0 _ rfl; rw [Nat.add_zero, show ((Kd.slice 3 (Kd.int .i64))).sz = 1 from rfl, Nat.mul_one] at hv706_0; replace hv706_0 := Option.some.inj (hv706_0.symm.trans hx706_0); rw [hv706_0] at ge706_0; have HL706_0 := Aside0.mk (show Kd.R (Kd.int .i64) 3 _ _ _ _ (rd_L1 t684 (ji65)) from ge706_0); clear hv706_0 ge706_0; clear hcc706 hce706; have HR706_0 := Aside0.mk hi706_0; have HC706_0 := Aside0.mk hl706_0; clear hi706_0 hl706_0; replace p706 := eq_true p706; replace q706 := eq_true q706; have ea_ := Option.some.inj (hx699_0.symm.trans hx706_0); injection ea_ with ea_ en_ ec_; subst ea_; subst ec_; clear en_; have p707 : 0 ≤ ((ji66) : Int) := of_decide_eq_true (by first | (with_reducible assumption) | assumption); have q707 : (ji66) < ((rd_L1 t684 (ji65)).length : Int) := of_decide_eq_true (by first | (with_reducible assumption) | assumption); obtain ⟨ad707, e707, hx707_0⟩ := Kd.at_int (by repeat (first | (with_reducible exact HR706_0.out) | (with_reducible refine Kd.C_alloc ?_ _) | (with_reducible refine Kd.C_drewN ?_ _) | (with_reducible refine Kd.C_drew ?_) | exact HR706_0.out)) (ji66) p707 q707; cases e707; replace p707 := eq_true p707; replace q707 := eq_true q707) | ((with_reducible refine gate_callee (f := 24) rfl ?_); refine goesL_ (some 219) rfl rfl Tryd.func24 (by kernel_rfl) rfl #[] rfl (by (try simp only [List.map_toArray, List.map_cons, List.map_nil]); first | done | rfl | (simp only [List.length_drop, List.length_take]; rfl)) ?_; (with_reducible refine (skewbaldlaw07_pressed.calls kj27  t710 _ ?side1 A116.out).mono ?_); (case side1 => exact Glob.below HGL.out (by repeat (first | (with_reducible first | exact HB.out | apply below_alloc | apply pw_below_drewN | apply below_drew1 | refine below_set ?_ GE674.out | refine below_set ?_ GE675.out) | exact HB.out))); rintro e w121 ⟨rfl, hb⟩; refine ⟨_, rfl, ?_⟩; have n0_ := Aside0.mk (Kd.S_below (by (with_reducible repeat (first | apply Kd.S_alloc | apply Kd.S_drewN | apply Kd.S_drew)); exact HO_11.out) hb); have n1_ := Aside0.mk (Kd.R_below (by (with_reducible repeat (first | apply Kd.R_alloc | apply Kd.R_drewN | apply Kd.R_drew)); exact HL699_0.out) hb); have n2_ := Aside0.mk (Kd.R_below (by (with_reducible repeat (first | apply Kd.R_alloc | apply Kd.R_drewN | apply Kd.R_drew)); exact HL706_0.out) hb); have n3_ := Aside0.mk (blk_below (g := gb674) (o := .cells #[.int .i64 a0_0, .slice A0_1 l0_1.length c0_1] 24 (0, 0)) (by (with_reducible repeat (first | refine blk_drewN ?_ _ | refine blk_drew ?_ | refine blk_alloc ?_ _)); exact BK674.out) hb); have n4_ := Aside0.mk (blk_below (g := gb675) (o := .cells #[.int .i64 a1_0, .int .i64 a1_1] 25 (0, 0)) (by (with_reducible repeat (first | refine blk_drewN ?_ _ | refine blk_drew ?_ | refine blk_alloc ?_ _)); exact BK675.out) hb); have n5_ := Aside0.mk (Kd.C_below (by repeat (first | (with_reducible exact HR699_0.out) | (with_reducible refine Kd.C_alloc ?_ _) | (with_reducible refine Kd.C_drewN ?_ _) | (with_reducible refine Kd.C_drew ?_) | exact HR699_0.out)) hb); have n6_ := Aside0.mk (Kd.C_below (by repeat (first | (with_reducible exact HR706_0.out) | (with_reducible refine Kd.C_alloc ?_ _) | (with_reducible refine Kd.C_drewN ?_ _) | (with_reducible refine Kd.C_drew ?_) | exact HR706_0.out)) hb); have n7_ := Aside0.mk (below_step (by repeat (first | (with_reducible first | exact HB.out | apply below_alloc | apply pw_below_drewN | apply below_drew1 | refine below_set ?_ GE674.out | refine below_set ?_ GE675.out) | exact HB.out)) hb); clear HO_11; clear HL699_0; clear HL706_0; clear BK674; clear BK675; clear HR699_0; clear HR706_0; clear HB; have HO_11 := n0_; have HL699_0 := n1_; have HL706_0 := n2_; have BK674 := n3_; have BK675 := n4_; have HR699_0 := n5_; have HR706_0 := n6_; have HB := n7_; clear n0_ n1_ n2_ n3_ n4_ n5_ n6_ n7_; (try clear hb); (try clear hb2); (try clear hk); (try clear hi)))
                    go_ret
                    exact ⟨by first | rfl | (rw [HE_.out]; done) | (simp [HE_.out]; done) | (simp [errW_none, errW_some] <;> rfl) | (simp only [← hji65, ← hji66]; first | rfl | (simp [errW_none, errW_some] <;> rfl)) | (simp [*, errW_none, errW_some] <;> rfl), by repeat (first | (with_reducible first | exact HB.out | apply below_alloc | apply pw_below_drewN | apply below_drew1 | refine below_set ?_ GE674.out | refine below_set ?_ GE675.out) | exact HB.out)⟩
               ·rw [if_neg c72] at H
                have c72b0 : (t678 == 0) = false := beq_eq_false_iff_ne.mpr c72
                have c72b1 : (t678 != 0) = true := bne_iff_ne.mpr c72
                exact absurd H (by simp)
              ·rw [if_neg c71] at H
               have c71b0 : decide (0 < (rd (rd_L1 t684 (ji65)) (ji66))) = false := decide_eq_false c71
               clear c71
               by_cases c122 : (rd (rd_L1 t684 (ji65)) (ji66)) = 2
               ·rw [if_pos c122] at H
                have c122b0 : ((rd (rd_L1 t684 (ji65)) (ji66)) == 2) = true := beq_iff_eq.mpr c122
                have c122b1 : ((rd (rd_L1 t684 (ji65)) (ji66)) != 2) = false := bne_eq_false_iff_eq.mpr c122
                clear c122
                by_cases c123 : t681 = 0
                ·rw [if_pos c123] at H
                 have c123b0 : (t681 == 0) = true := beq_iff_eq.mpr c123
                 have c123b1 : (t681 != 0) = false := bne_eq_false_iff_eq.mpr c123
                 clear c123
                 by_cases c124 : t679 > (ji65)
                 ·rw [if_pos c124] at H
                  have c124b0 : decide ((ji65) < t679) = true := decide_eq_true c124
                  clear c124
                  exact absurd H (by simp)
                 ·rw [if_neg c124] at H
                  have c124b0 : decide ((ji65) < t679) = false := decide_eq_false c124
                  clear c124
                  by_cases c125 : t679 = (ji65)
                  ·rw [if_pos c125] at H
                   have c125b0 : (t679 == (ji65)) = true := beq_iff_eq.mpr c125
                   have c125b1 : (t679 != (ji65)) = false := bne_eq_false_iff_eq.mpr c125
                   clear c125
                   by_cases c126 : t680 > (ji66)
                   ·rw [if_pos c126] at H
                    have c126b0 : decide ((ji66) < t680) = true := decide_eq_true c126
                    clear c126
                    exact absurd H (by simp)
                   ·rw [if_neg c126] at H
                    have c126b0 : decide ((ji66) < t680) = false := decide_eq_false c126
                    clear c126
                    replace H := Option.bind_eq_some_iff.mp H
                    obtain ⟨t713, A1270, H⟩ := H
                    replace H : (some t713) = some true := H
                    have A127 := Aside0.mk A1270
                    clear A1270
                    as_aux_lemma =>
                     have HE_ := Aside0.mk (Option.some.inj H)
                     clear H
                     have hnb128 := NB674_675.out
                     have hnc128 := NB675_674.out
                     have hcz129_0 : wc.cell? ⟨gb674, 0, none⟩ = some (.int .i64 a0_0) := (blk_cell BK674.out 0).trans rfl
                     have hcz129_1 : wc.cell? ⟨gb674, 1, none⟩ = some (.slice A0_1 l0_1.length c0_1) := (blk_cell BK674.out 1).trans rfl
                     have hfz129_0 := blk_frozen BK674.out 0
                     have hfz129_1 := blk_frozen BK674.out 1
                     have hcz130_0 : wc.cell? ⟨gb675, 0, none⟩ = some (.int .i64 a1_0) := (blk_cell BK675.out 0).trans rfl
                     have hcz130_1 : wc.cell? ⟨gb675, 1, none⟩ = some (.int .i64 a1_1) := (blk_cell BK675.out 1).trans rfl
                     have hfz130_0 := blk_frozen BK675.out 0
                     have hfz130_1 := blk_frozen BK675.out 1
                     go_wp2_with (first | ((with_reducible refine gate_callee (f := 35) rfl ?_); refine goesL_ (some 154) rfl rfl Tryd.func35 (by kernel_rfl) rfl #[.agg #[.int .i64 a0_0, .slice A0_1 l0_1.length c0_1], .int .i64 a1_0, .int .i64 a1_1] rfl (by (try simp only [List.map_toArray, List.map_cons, List.map_nil]); first | done | rfl | (simp only [List.length_drop, List.length_take]; rfl)) ?_; (with_reducible refine (skewbaldlaw07_two.calls a0_0 _ _ l0_1 a1_0 a1_1 t697 t698 _ ?side1 ?side2 A64.out).mono ?_); (case side1 => repeat (first | exact (Kd.C_below HR0_1.out HB.out) | (with_reducible refine Kd.C_alloc ?_ _) | (with_reducible refine Kd.C_drewN ?_ _) | (with_reducible refine Kd.C_drew ?_))); (case side2 => exact HC0_1.out); rintro e w131 ⟨rfl, hb⟩; refine ⟨_, rfl, ?_⟩; have n0_ := Aside0.mk (Kd.S_below (by (with_reducible repeat (first | apply Kd.S_alloc | apply Kd.S_drewN | apply Kd.S_drew)); exact HO_11.out) hb); have n1_ := Aside0.mk (blk_below (g := gb674) (o := .cells #[.int .i64 a0_0, .slice A0_1 l0_1.length c0_1] 24 (0, 0)) (by (with_reducible repeat (first | refine blk_drewN ?_ _ | refine blk_drew ?_ | refine blk_alloc ?_ _)); exact BK674.out) hb); have n2_ := Aside0.mk (blk_below (g := gb675) (o := .cells #[.int .i64 a1_0, .int .i64 a1_1] 25 (0, 0)) (by (with_reducible repeat (first | refine blk_drewN ?_ _ | refine blk_drew ?_ | refine blk_alloc ?_ _)); exact BK675.out) hb); have n3_ := Aside0.mk (below_step (by repeat (first | (with_reducible first | exact HB.out | apply below_alloc | apply pw_below_drewN | apply below_drew1 | refine below_set ?_ GE674.out | refine below_set ?_ GE675.out) | exact HB.out)) hb); clear HO_11; clear BK674; clear BK675; clear HB; have HO_11 := n0_; have BK674 := n1_; have BK675 := n2_; have HB := n3_; clear n0_ n1_ n2_ n3_; (try clear hb); (try clear hb2); (try clear hk); (try clear hi); have p699 : 0 ≤ ((ji65) : Int) := of_decide_eq_true (by first | (with_reducible assumption) | assumption); have q699 : (ji65) < (t684.length : Int) := of_decide_eq_true (by first | (with_reducible assumption) | assumption); obtain ⟨ad699, A699_0, c699_0, e699, hx699_0, hl699_0, hi699_0⟩ := at_L1 (Kd.S_reads' HO_11.out).2.2 (ji65) p699 q699; cases e699; obtain ⟨ce699, hce699, hMe699, hcc699⟩ := Kd.S_get HO_11.out [] (ji65) p699 (by first | exact q699 | exact of_decide_eq_true (by first | (with_reducible assumption) | assumption) | (have e_ := (Kd.S_reads' HO_11.out).1; omega)); obtain ⟨ve699_0, rfl, ge699_0⟩ := hMe699; have hv699_0 := hcc699 0 _ rfl; rw [Nat.add_zero, show ((Kd.slice 3 (Kd.int .i64))).sz = 1 from rfl, Nat.mul_one] at hv699_0; replace hv699_0 := Option.some.inj (hv699_0.symm.trans hx699_0); rw [hv699_0] at ge699_0; have HL699_0 := Aside0.mk (show Kd.R (Kd.int .i64) 3 _ _ _ _ (rd_L1 t684 (ji65)) from ge699_0); clear hv699_0 ge699_0; clear hcc699 hce699; have HR699_0 := Aside0.mk hi699_0; have HC699_0 := Aside0.mk hl699_0; clear hi699_0 hl699_0; replace p699 := eq_true p699; replace q699 := eq_true q699; have p700 : 0 ≤ ((ji66) : Int) := of_decide_eq_true (by first | (with_reducible assumption) | assumption); have q700 : (ji66) < ((rd_L1 t684 (ji65)).length : Int) := of_decide_eq_true (by first | (with_reducible assumption) | assumption); obtain ⟨ad700, e700, hx700_0⟩ := Kd.at_int (by repeat (first | (with_reducible exact HR699_0.out) | (with_reducible refine Kd.C_alloc ?_ _) | (with_reducible refine Kd.C_drewN ?_ _) | (with_reducible refine Kd.C_drew ?_) | exact HR699_0.out)) (ji66) p700 q700; cases e700; replace p700 := eq_true p700; replace q700 := eq_true q700; have p711 : 0 ≤ ((ji65) : Int) := of_decide_eq_true (by first | (with_reducible assumption) | assumption); have q711 : (ji65) < (t684.length : Int) := of_decide_eq_true (by first | (with_reducible assumption) | assumption); obtain ⟨ad711, A711_0, c711_0, e711, hx711_0, hl711_0, hi711_0⟩ := at_L1 (Kd.S_reads' HO_11.out).2.2 (ji65) p711 q711; obtain rfl : ad699 = ad711 := (by injection e711); obtain ⟨ce711, hce711, hMe711, hcc711⟩ := Kd.S_get HO_11.out [] (ji65) p711 (by first | exact q711 | exact of_decide_eq_true (by first | (with_reducible assumption) | assumption) | (have e_ := (Kd.S_reads' HO_11.out).1; omega)); obtain ⟨ve711_0, rfl, ge711_0⟩ := hMe711; have hv711_0 := hcc711 0 _ rfl; rw [Nat.add_zero, show ((Kd.slice 3 (Kd.int .i64))).sz = 1 from rfl, Nat.mul_one] at hv711_0; replace hv711_0 := Option.some.inj (hv711_0.symm.trans hx711_0); rw [hv711_0] at ge711_0; have HL711_0 := Aside0.mk (show Kd.R (Kd.int .i64) 3 _ _ _ _ (rd_L1 t684 (ji65)) from ge711_0); clear hv711_0 ge711_0; clear hcc711 hce711; have HR711_0 := Aside0.mk hi711_0; have HC711_0 := Aside0.mk hl711_0; clear hi711_0 hl711_0; replace p711 := eq_true p711; replace q711 := eq_true q711; have ea_ := Option.some.inj (hx699_0.symm.trans hx711_0); injection ea_ with ea_ en_ ec_; subst ea_; subst ec_; clear en_; have p712 : 0 ≤ ((ji66) : Int) := of_decide_eq_true (by first | (with_reducible assumption) | assumption); have q712 : (ji66) < ((rd_L1 t684 (ji65)).length : Int) := of_decide_eq_true (by first | (with_reducible assumption) | assumption); obtain ⟨ad712, e712, hx712_0⟩ := Kd.at_int (by repeat (first | (with_reducible exact HR711_0.out) | (with_reducible refine Kd.C_alloc ?_ _) | (with_reducible refine Kd.C_drewN ?_ _) | (with_reducible refine Kd.C_drew ?_) | exact HR711_0.out)) (ji66) p712 q712; cases e712; replace p712 := eq_true p712; replace q712 := eq_true q712) | ((with_reducible refine gate_callee (f := 24) rfl ?_); refine goesL_ (some 219) rfl rfl Tryd.func24 (by kernel_rfl) rfl #[] rfl (by (try simp only [List.map_toArray, List.map_cons, List.map_nil]); first | done | rfl | (simp only [List.length_drop, List.length_take]; rfl)) ?_; (with_reducible refine (skewbaldlaw07_pressed.calls kj27  t713 _ ?side1 A127.out).mono ?_); (case side1 => exact Glob.below HGL.out (by repeat (first | (with_reducible first | exact HB.out | apply below_alloc | apply pw_below_drewN | apply below_drew1 | refine below_set ?_ GE674.out | refine below_set ?_ GE675.out) | exact HB.out))); rintro e w132 ⟨rfl, hb⟩; refine ⟨_, rfl, ?_⟩; have n0_ := Aside0.mk (Kd.S_below (by (with_reducible repeat (first | apply Kd.S_alloc | apply Kd.S_drewN | apply Kd.S_drew)); exact HO_11.out) hb); have n1_ := Aside0.mk (Kd.R_below (by (with_reducible repeat (first | apply Kd.R_alloc | apply Kd.R_drewN | apply Kd.R_drew)); exact HL699_0.out) hb); have n2_ := Aside0.mk (Kd.R_below (by (with_reducible repeat (first | apply Kd.R_alloc | apply Kd.R_drewN | apply Kd.R_drew)); exact HL711_0.out) hb); have n3_ := Aside0.mk (blk_below (g := gb674) (o := .cells #[.int .i64 a0_0, .slice A0_1 l0_1.length c0_1] 24 (0, 0)) (by (with_reducible repeat (first | refine blk_drewN ?_ _ | refine blk_drew ?_ | refine blk_alloc ?_ _)); exact BK674.out) hb); have n4_ := Aside0.mk (blk_below (g := gb675) (o := .cells #[.int .i64 a1_0, .int .i64 a1_1] 25 (0, 0)) (by (with_reducible repeat (first | refine blk_drewN ?_ _ | refine blk_drew ?_ | refine blk_alloc ?_ _)); exact BK675.out) hb); have n5_ := Aside0.mk (Kd.C_below (by repeat (first | (with_reducible exact HR699_0.out) | (with_reducible refine Kd.C_alloc ?_ _) | (with_reducible refine Kd.C_drewN ?_ _) | (with_reducible refine Kd.C_drew ?_) | exact HR699_0.out)) hb); have n6_ := Aside0.mk (Kd.C_below (by repeat (first | (with_reducible exact HR711_0.out) | (with_reducible refine Kd.C_alloc ?_ _) | (with_reducible refine Kd.C_drewN ?_ _) | (with_reducible refine Kd.C_drew ?_) | exact HR711_0.out)) hb); have n7_ := Aside0.mk (below_step (by repeat (first | (with_reducible first | exact HB.out | apply below_alloc | apply pw_below_drewN | apply below_drew1 | refine below_set ?_ GE674.out | refine below_set ?_ GE675.out) | exact HB.out)) hb); clear HO_11; clear HL699_0; clear HL711_0; clear BK674; clear BK675; clear HR699_0; clear HR711_0; clear HB; have HO_11 := n0_; have HL699_0 := n1_; have HL711_0 := n2_; have BK674 := n3_; have BK675 := n4_; have HR699_0 := n5_; have HR711_0 := n6_; have HB := n7_; clear n0_ n1_ n2_ n3_ n4_ n5_ n6_ n7_; (try clear hb); (try clear hb2); (try clear hk); (try clear hi)))
                     go_ret
                     exact ⟨by first | rfl | (rw [HE_.out]; done) | (simp [HE_.out]; done) | (simp [errW_none, errW_some] <;> rfl) | (simp only [← hji65, ← hji66]; first | rfl | (simp [errW_none, errW_some] <;> rfl)) | (simp [*, errW_none, errW_some] <;> rfl), by repeat (first | (with_reducible first | exact HB.out | apply below_alloc | apply pw_below_drewN | apply below_drew1 | refine below_set ?_ GE674.out | refine below_set ?_ GE675.out) | exact HB.out)⟩
                  ·rw [if_neg c125] at H
                   have c125b0 : (t679 == (ji65)) = false := beq_eq_false_iff_ne.mpr c125
                   have c125b1 : (t679 != (ji65)) = true := bne_iff_ne.mpr c125
                   replace H := Option.bind_eq_some_iff.mp H
                   obtain ⟨t714, A1330, H⟩ := H
                   replace H : (some t714) = some true := H
                   have A133 := Aside0.mk A1330
                   clear A1330
                   as_aux_lemma =>
                    have HE_ := Aside0.mk (Option.some.inj H)
                    clear H
                    have hnb134 := NB674_675.out
                    have hnc134 := NB675_674.out
                    have hcz135_0 : wc.cell? ⟨gb674, 0, none⟩ = some (.int .i64 a0_0) := (blk_cell BK674.out 0).trans rfl
                    have hcz135_1 : wc.cell? ⟨gb674, 1, none⟩ = some (.slice A0_1 l0_1.length c0_1) := (blk_cell BK674.out 1).trans rfl
                    have hfz135_0 := blk_frozen BK674.out 0
                    have hfz135_1 := blk_frozen BK674.out 1
                    have hcz136_0 : wc.cell? ⟨gb675, 0, none⟩ = some (.int .i64 a1_0) := (blk_cell BK675.out 0).trans rfl
                    have hcz136_1 : wc.cell? ⟨gb675, 1, none⟩ = some (.int .i64 a1_1) := (blk_cell BK675.out 1).trans rfl
                    have hfz136_0 := blk_frozen BK675.out 0
                    have hfz136_1 := blk_frozen BK675.out 1
                    go_wp2_with (first | ((with_reducible refine gate_callee (f := 35) rfl ?_); refine goesL_ (some 154) rfl rfl Tryd.func35 (by kernel_rfl) rfl #[.agg #[.int .i64 a0_0, .slice A0_1 l0_1.length c0_1], .int .i64 a1_0, .int .i64 a1_1] rfl (by (try simp only [List.map_toArray, List.map_cons, List.map_nil]); first | done | rfl | (simp only [List.length_drop, List.length_take]; rfl)) ?_; (with_reducible refine (skewbaldlaw07_two.calls a0_0 _ _ l0_1 a1_0 a1_1 t697 t698 _ ?side1 ?side2 A64.out).mono ?_); (case side1 => repeat (first | exact (Kd.C_below HR0_1.out HB.out) | (with_reducible refine Kd.C_alloc ?_ _) | (with_reducible refine Kd.C_drewN ?_ _) | (with_reducible refine Kd.C_drew ?_))); (case side2 => exact HC0_1.out); rintro e w137 ⟨rfl, hb⟩; refine ⟨_, rfl, ?_⟩; have n0_ := Aside0.mk (Kd.S_below (by (with_reducible repeat (first | apply Kd.S_alloc | apply Kd.S_drewN | apply Kd.S_drew)); exact HO_11.out) hb); have n1_ := Aside0.mk (blk_below (g := gb674) (o := .cells #[.int .i64 a0_0, .slice A0_1 l0_1.length c0_1] 24 (0, 0)) (by (with_reducible repeat (first | refine blk_drewN ?_ _ | refine blk_drew ?_ | refine blk_alloc ?_ _)); exact BK674.out) hb); have n2_ := Aside0.mk (blk_below (g := gb675) (o := .cells #[.int .i64 a1_0, .int .i64 a1_1] 25 (0, 0)) (by (with_reducible repeat (first | refine blk_drewN ?_ _ | refine blk_drew ?_ | refine blk_alloc ?_ _)); exact BK675.out) hb); have n3_ := Aside0.mk (below_step (by repeat (first | (with_reducible first | exact HB.out | apply below_alloc | apply pw_below_drewN | apply below_drew1 | refine below_set ?_ GE674.out | refine below_set ?_ GE675.out) | exact HB.out)) hb); clear HO_11; clear BK674; clear BK675; clear HB; have HO_11 := n0_; have BK674 := n1_; have BK675 := n2_; have HB := n3_; clear n0_ n1_ n2_ n3_; (try clear hb); (try clear hb2); (try clear hk); (try clear hi); have p699 : 0 ≤ ((ji65) : Int) := of_decide_eq_true (by first | (with_reducible assumption) | assumption); have q699 : (ji65) < (t684.length : Int) := of_decide_eq_true (by first | (with_reducible assumption) | assumption); obtain ⟨ad699, A699_0, c699_0, e699, hx699_0, hl699_0, hi699_0⟩ := at_L1 (Kd.S_reads' HO_11.out).2.2 (ji65) p699 q699; cases e699; obtain ⟨ce699, hce699, hMe699, hcc699⟩ := Kd.S_get HO_11.out [] (ji65) p699 (by first | exact q699 | exact of_decide_eq_true (by first | (with_reducible assumption) | assumption) | (have e_ := (Kd.S_reads' HO_11.out).1; omega)); obtain ⟨ve699_0, rfl, ge699_0⟩ := hMe699; have hv699_0 := hcc699 0 _ rfl; rw [Nat.add_zero, show ((Kd.slice 3 (Kd.int .i64))).sz = 1 from rfl, Nat.mul_one] at hv699_0; replace hv699_0 := Option.some.inj (hv699_0.symm.trans hx699_0); rw [hv699_0] at ge699_0; have HL699_0 := Aside0.mk (show Kd.R (Kd.int .i64) 3 _ _ _ _ (rd_L1 t684 (ji65)) from ge699_0); clear hv699_0 ge699_0; clear hcc699 hce699; have HR699_0 := Aside0.mk hi699_0; have HC699_0 := Aside0.mk hl699_0; clear hi699_0 hl699_0; replace p699 := eq_true p699; replace q699 := eq_true q699; have p700 : 0 ≤ ((ji66) : Int) := of_decide_eq_true (by first | (with_reducible assumption) | assumption); have q700 : (ji66) < ((rd_L1 t684 (ji65)).length : Int) := of_decide_eq_true (by first | (with_reducible assumption) | assumption); obtain ⟨ad700, e700, hx700_0⟩ := Kd.at_int (by repeat (first | (with_reducible exact HR699_0.out) | (with_reducible refine Kd.C_alloc ?_ _) | (with_reducible refine Kd.C_drewN ?_ _) | (with_reducible refine Kd.C_drew ?_) | exact HR699_0.out)) (ji66) p700 q700; cases e700; replace p700 := eq_true p700; replace q700 := eq_true q700; have p711 : 0 ≤ ((ji65) : Int) := of_decide_eq_true (by first | (with_reducible assumption) | assumption); have q711 : (ji65) < (t684.length : Int) := of_decide_eq_true (by first | (with_reducible assumption) | assumption); obtain ⟨ad711, A711_0, c711_0, e711, hx711_0, hl711_0, hi711_0⟩ := at_L1 (Kd.S_reads' HO_11.out).2.2 (ji65) p711 q711; obtain rfl : ad699 = ad711 := (by injection e711); obtain ⟨ce711, hce711, hMe711, hcc711⟩ := Kd.S_get HO_11.out [] (ji65) p711 (by first | exact q711 | exact of_decide_eq_true (by first | (with_reducible assumption) | assumption) | (have e_ := (Kd.S_reads' HO_11.out).1; omega)); obtain ⟨ve711_0, rfl, ge711_0⟩ := hMe711; have hv711_0 := hcc711 0 _ rfl; rw [Nat.add_zero, show ((Kd.slice 3 (Kd.int .i64))).sz = 1 from rfl, Nat.mul_one] at hv711_0; replace hv711_0 := Option.some.inj (hv711_0.symm.trans hx711_0); rw [hv711_0] at ge711_0; have HL711_0 := Aside0.mk (show Kd.R (Kd.int .i64) 3 _ _ _ _ (rd_L1 t684 (ji65)) from ge711_0); clear hv711_0 ge711_0; clear hcc711 hce711; have HR711_0 := Aside0.mk hi711_0; have HC711_0 := Aside0.mk hl711_0; clear hi711_0 hl711_0; replace p711 := eq_true p711; replace q711 := eq_true q711; have ea_ := Option.some.inj (hx699_0.symm.trans hx711_0); injection ea_ with ea_ en_ ec_; subst ea_; subst ec_; clear en_; have p712 : 0 ≤ ((ji66) : Int) := of_decide_eq_true (by first | (with_reducible assumption) | assumption); have q712 : (ji66) < ((rd_L1 t684 (ji65)).length : Int) := of_decide_eq_true (by first | (with_reducible assumption) | assumption); obtain ⟨ad712, e712, hx712_0⟩ := Kd.at_int (by repeat (first | (with_reducible exact HR711_0.out) | (with_reducible refine Kd.C_alloc ?_ _) | (with_reducible refine Kd.C_drewN ?_ _) | (with_reducible refine Kd.C_drew ?_) | exact HR711_0.out)) (ji66) p712 q712; cases e712; replace p712 := eq_true p712; replace q712 := eq_true q712) | ((with_reducible refine gate_callee (f := 24) rfl ?_); refine goesL_ (some 219) rfl rfl Tryd.func24 (by kernel_rfl) rfl #[] rfl (by (try simp only [List.map_toArray, List.map_cons, List.map_nil]); first | done | rfl | (simp only [List.length_drop, List.length_take]; rfl)) ?_; (with_reducible refine (skewbaldlaw07_pressed.calls kj27  t714 _ ?side1 A133.out).mono ?_); (case side1 => exact Glob.below HGL.out (by repeat (first | (with_reducible first | exact HB.out | apply below_alloc | apply pw_below_drewN | apply below_drew1 | refine below_set ?_ GE674.out | refine below_set ?_ GE675.out) | exact HB.out))); rintro e w138 ⟨rfl, hb⟩; refine ⟨_, rfl, ?_⟩; have n0_ := Aside0.mk (Kd.S_below (by (with_reducible repeat (first | apply Kd.S_alloc | apply Kd.S_drewN | apply Kd.S_drew)); exact HO_11.out) hb); have n1_ := Aside0.mk (Kd.R_below (by (with_reducible repeat (first | apply Kd.R_alloc | apply Kd.R_drewN | apply Kd.R_drew)); exact HL699_0.out) hb); have n2_ := Aside0.mk (Kd.R_below (by (with_reducible repeat (first | apply Kd.R_alloc | apply Kd.R_drewN | apply Kd.R_drew)); exact HL711_0.out) hb); have n3_ := Aside0.mk (blk_below (g := gb674) (o := .cells #[.int .i64 a0_0, .slice A0_1 l0_1.length c0_1] 24 (0, 0)) (by (with_reducible repeat (first | refine blk_drewN ?_ _ | refine blk_drew ?_ | refine blk_alloc ?_ _)); exact BK674.out) hb); have n4_ := Aside0.mk (blk_below (g := gb675) (o := .cells #[.int .i64 a1_0, .int .i64 a1_1] 25 (0, 0)) (by (with_reducible repeat (first | refine blk_drewN ?_ _ | refine blk_drew ?_ | refine blk_alloc ?_ _)); exact BK675.out) hb); have n5_ := Aside0.mk (Kd.C_below (by repeat (first | (with_reducible exact HR699_0.out) | (with_reducible refine Kd.C_alloc ?_ _) | (with_reducible refine Kd.C_drewN ?_ _) | (with_reducible refine Kd.C_drew ?_) | exact HR699_0.out)) hb); have n6_ := Aside0.mk (Kd.C_below (by repeat (first | (with_reducible exact HR711_0.out) | (with_reducible refine Kd.C_alloc ?_ _) | (with_reducible refine Kd.C_drewN ?_ _) | (with_reducible refine Kd.C_drew ?_) | exact HR711_0.out)) hb); have n7_ := Aside0.mk (below_step (by repeat (first | (with_reducible first | exact HB.out | apply below_alloc | apply pw_below_drewN | apply below_drew1 | refine below_set ?_ GE674.out | refine below_set ?_ GE675.out) | exact HB.out)) hb); clear HO_11; clear HL699_0; clear HL711_0; clear BK674; clear BK675; clear HR699_0; clear HR711_0; clear HB; have HO_11 := n0_; have HL699_0 := n1_; have HL711_0 := n2_; have BK674 := n3_; have BK675 := n4_; have HR699_0 := n5_; have HR711_0 := n6_; have HB := n7_; clear n0_ n1_ n2_ n3_ n4_ n5_ n6_ n7_; (try clear hb); (try clear hb2); (try clear hk); (try clear hi)))
                    go_ret
                    exact ⟨by first | rfl | (rw [HE_.out]; done) | (simp [HE_.out]; done) | (simp [errW_none, errW_some] <;> rfl) | (simp only [← hji65, ← hji66]; first | rfl | (simp [errW_none, errW_some] <;> rfl)) | (simp [*, errW_none, errW_some] <;> rfl), by repeat (first | (with_reducible first | exact HB.out | apply below_alloc | apply pw_below_drewN | apply below_drew1 | refine below_set ?_ GE674.out | refine below_set ?_ GE675.out) | exact HB.out)⟩
                ·rw [if_neg c123] at H
                 have c123b0 : (t681 == 0) = false := beq_eq_false_iff_ne.mpr c123
                 have c123b1 : (t681 != 0) = true := bne_iff_ne.mpr c123
                 exact absurd H (by simp)
               ·rw [if_neg c122] at H
                have c122b0 : ((rd (rd_L1 t684 (ji65)) (ji66)) == 2) = false := beq_eq_false_iff_ne.mpr c122
                have c122b1 : ((rd (rd_L1 t684 (ji65)) (ji66)) != 2) = true := bne_iff_ne.mpr c122
                replace H := Option.bind_eq_some_iff.mp H
                obtain ⟨t715, A1390, H⟩ := H
                replace H : (some t715) = some true := H
                have A139 := Aside0.mk A1390
                clear A1390
                as_aux_lemma =>
                 have HE_ := Aside0.mk (Option.some.inj H)
                 clear H
                 have hnb140 := NB674_675.out
                 have hnc140 := NB675_674.out
                 have hcz141_0 : wc.cell? ⟨gb674, 0, none⟩ = some (.int .i64 a0_0) := (blk_cell BK674.out 0).trans rfl
                 have hcz141_1 : wc.cell? ⟨gb674, 1, none⟩ = some (.slice A0_1 l0_1.length c0_1) := (blk_cell BK674.out 1).trans rfl
                 have hfz141_0 := blk_frozen BK674.out 0
                 have hfz141_1 := blk_frozen BK674.out 1
                 have hcz142_0 : wc.cell? ⟨gb675, 0, none⟩ = some (.int .i64 a1_0) := (blk_cell BK675.out 0).trans rfl
                 have hcz142_1 : wc.cell? ⟨gb675, 1, none⟩ = some (.int .i64 a1_1) := (blk_cell BK675.out 1).trans rfl
                 have hfz142_0 := blk_frozen BK675.out 0
                 have hfz142_1 := blk_frozen BK675.out 1
                 go_wp2_with (first | ((with_reducible refine gate_callee (f := 35) rfl ?_); refine goesL_ (some 154) rfl rfl Tryd.func35 (by kernel_rfl) rfl #[.agg #[.int .i64 a0_0, .slice A0_1 l0_1.length c0_1], .int .i64 a1_0, .int .i64 a1_1] rfl (by (try simp only [List.map_toArray, List.map_cons, List.map_nil]); first | done | rfl | (simp only [List.length_drop, List.length_take]; rfl)) ?_; (with_reducible refine (skewbaldlaw07_two.calls a0_0 _ _ l0_1 a1_0 a1_1 t697 t698 _ ?side1 ?side2 A64.out).mono ?_); (case side1 => repeat (first | exact (Kd.C_below HR0_1.out HB.out) | (with_reducible refine Kd.C_alloc ?_ _) | (with_reducible refine Kd.C_drewN ?_ _) | (with_reducible refine Kd.C_drew ?_))); (case side2 => exact HC0_1.out); rintro e w143 ⟨rfl, hb⟩; refine ⟨_, rfl, ?_⟩; have n0_ := Aside0.mk (Kd.S_below (by (with_reducible repeat (first | apply Kd.S_alloc | apply Kd.S_drewN | apply Kd.S_drew)); exact HO_11.out) hb); have n1_ := Aside0.mk (blk_below (g := gb674) (o := .cells #[.int .i64 a0_0, .slice A0_1 l0_1.length c0_1] 24 (0, 0)) (by (with_reducible repeat (first | refine blk_drewN ?_ _ | refine blk_drew ?_ | refine blk_alloc ?_ _)); exact BK674.out) hb); have n2_ := Aside0.mk (blk_below (g := gb675) (o := .cells #[.int .i64 a1_0, .int .i64 a1_1] 25 (0, 0)) (by (with_reducible repeat (first | refine blk_drewN ?_ _ | refine blk_drew ?_ | refine blk_alloc ?_ _)); exact BK675.out) hb); have n3_ := Aside0.mk (below_step (by repeat (first | (with_reducible first | exact HB.out | apply below_alloc | apply pw_below_drewN | apply below_drew1 | refine below_set ?_ GE674.out | refine below_set ?_ GE675.out) | exact HB.out)) hb); clear HO_11; clear BK674; clear BK675; clear HB; have HO_11 := n0_; have BK674 := n1_; have BK675 := n2_; have HB := n3_; clear n0_ n1_ n2_ n3_; (try clear hb); (try clear hb2); (try clear hk); (try clear hi); have p699 : 0 ≤ ((ji65) : Int) := of_decide_eq_true (by first | (with_reducible assumption) | assumption); have q699 : (ji65) < (t684.length : Int) := of_decide_eq_true (by first | (with_reducible assumption) | assumption); obtain ⟨ad699, A699_0, c699_0, e699, hx699_0, hl699_0, hi699_0⟩ := at_L1 (Kd.S_reads' HO_11.out).2.2 (ji65) p699 q699; cases e699; obtain ⟨ce699, hce699, hMe699, hcc699⟩ := Kd.S_get HO_11.out [] (ji65) p699 (by first | exact q699 | exact of_decide_eq_true (by first | (with_reducible assumption) | assumption) | (have e_ := (Kd.S_reads' HO_11.out).1; omega)); obtain ⟨ve699_0, rfl, ge699_0⟩ := hMe699; have hv699_0 := hcc699 0 _ rfl; rw [Nat.add_zero, show ((Kd.slice 3 (Kd.int .i64))).sz = 1 from rfl, Nat.mul_one] at hv699_0; replace hv699_0 := Option.some.inj (hv699_0.symm.trans hx699_0); rw [hv699_0] at ge699_0; have HL699_0 := Aside0.mk (show Kd.R (Kd.int .i64) 3 _ _ _ _ (rd_L1 t684 (ji65)) from ge699_0); clear hv699_0 ge699_0; clear hcc699 hce699; have HR699_0 := Aside0.mk hi699_0; have HC699_0 := Aside0.mk hl699_0; clear hi699_0 hl699_0; replace p699 := eq_true p699; replace q699 := eq_true q699; have p700 : 0 ≤ ((ji66) : Int) := of_decide_eq_true (by first | (with_reducible assumption) | assumption); have q700 : (ji66) < ((rd_L1 t684 (ji65)).length : Int) := of_decide_eq_true (by first | (with_reducible assumption) | assumption); obtain ⟨ad700, e700, hx700_0⟩ := Kd.at_int (by repeat (first | (with_reducible exact HR699_0.out) | (with_reducible refine Kd.C_alloc ?_ _) | (with_reducible refine Kd.C_drewN ?_ _) | (with_reducible refine Kd.C_drew ?_) | exact HR699_0.out)) (ji66) p700 q700; cases e700; replace p700 := eq_true p700; replace q700 := eq_true q700; have p711 : 0 ≤ ((ji65) : Int) := of_decide_eq_true (by first | (with_reducible assumption) | assumption); have q711 : (ji65) < (t684.length : Int) := of_decide_eq_true (by first | (with_reducible assumption) | assumption); obtain ⟨ad711, A711_0, c711_0, e711, hx711_0, hl711_0, hi711_0⟩ := at_L1 (Kd.S_reads' HO_11.out).2.2 (ji65) p711 q711; obtain rfl : ad699 = ad711 := (by injection e711); obtain ⟨ce711, hce711, hMe711, hcc711⟩ := Kd.S_get HO_11.out [] (ji65) p711 (by first | exact q711 | exact of_decide_eq_true (by first | (with_reducible assumption) | assumption) | (have e_ := (Kd.S_reads' HO_11.out).1; omega)); obtain ⟨ve711_0, rfl, ge711_0⟩ := hMe711; have hv711_0 := hcc711 0 _ rfl; rw [Nat.add_zero, show ((Kd.slice 3 (Kd.int .i64))).sz = 1 from rfl, Nat.mul_one] at hv711_0; replace hv711_0 := Option.some.inj (hv711_0.symm.trans hx711_0); rw [hv711_0] at ge711_0; have HL711_0 := Aside0.mk (show Kd.R (Kd.int .i64) 3 _ _ _ _ (rd_L1 t684 (ji65)) from ge711_0); clear hv711_0 ge711_0; clear hcc711 hce711; have HR711_0 := Aside0.mk hi711_0; have HC711_0 := Aside0.mk hl711_0; clear hi711_0 hl711_0; replace p711 := eq_true p711; replace q711 := eq_true q711; have ea_ := Option.some.inj (hx699_0.symm.trans hx711_0); injection ea_ with ea_ en_ ec_; subst ea_; subst ec_; clear en_; have p712 : 0 ≤ ((ji66) : Int) := of_decide_eq_true (by first | (with_reducible assumption) | assumption); have q712 : (ji66) < ((rd_L1 t684 (ji65)).length : Int) := of_decide_eq_true (by first | (with_reducible assumption) | assumption); obtain ⟨ad712, e712, hx712_0⟩ := Kd.at_int (by repeat (first | (with_reducible exact HR711_0.out) | (with_reducible refine Kd.C_alloc ?_ _) | (with_reducible refine Kd.C_drewN ?_ _) | (with_reducible refine Kd.C_drew ?_) | exact HR711_0.out)) (ji66) p712 q712; cases e712; replace p712 := eq_true p712; replace q712 := eq_true q712) | ((with_reducible refine gate_callee (f := 24) rfl ?_); refine goesL_ (some 219) rfl rfl Tryd.func24 (by kernel_rfl) rfl #[] rfl (by (try simp only [List.map_toArray, List.map_cons, List.map_nil]); first | done | rfl | (simp only [List.length_drop, List.length_take]; rfl)) ?_; (with_reducible refine (skewbaldlaw07_pressed.calls kj27  t715 _ ?side1 A139.out).mono ?_); (case side1 => exact Glob.below HGL.out (by repeat (first | (with_reducible first | exact HB.out | apply below_alloc | apply pw_below_drewN | apply below_drew1 | refine below_set ?_ GE674.out | refine below_set ?_ GE675.out) | exact HB.out))); rintro e w144 ⟨rfl, hb⟩; refine ⟨_, rfl, ?_⟩; have n0_ := Aside0.mk (Kd.S_below (by (with_reducible repeat (first | apply Kd.S_alloc | apply Kd.S_drewN | apply Kd.S_drew)); exact HO_11.out) hb); have n1_ := Aside0.mk (Kd.R_below (by (with_reducible repeat (first | apply Kd.R_alloc | apply Kd.R_drewN | apply Kd.R_drew)); exact HL699_0.out) hb); have n2_ := Aside0.mk (Kd.R_below (by (with_reducible repeat (first | apply Kd.R_alloc | apply Kd.R_drewN | apply Kd.R_drew)); exact HL711_0.out) hb); have n3_ := Aside0.mk (blk_below (g := gb674) (o := .cells #[.int .i64 a0_0, .slice A0_1 l0_1.length c0_1] 24 (0, 0)) (by (with_reducible repeat (first | refine blk_drewN ?_ _ | refine blk_drew ?_ | refine blk_alloc ?_ _)); exact BK674.out) hb); have n4_ := Aside0.mk (blk_below (g := gb675) (o := .cells #[.int .i64 a1_0, .int .i64 a1_1] 25 (0, 0)) (by (with_reducible repeat (first | refine blk_drewN ?_ _ | refine blk_drew ?_ | refine blk_alloc ?_ _)); exact BK675.out) hb); have n5_ := Aside0.mk (Kd.C_below (by repeat (first | (with_reducible exact HR699_0.out) | (with_reducible refine Kd.C_alloc ?_ _) | (with_reducible refine Kd.C_drewN ?_ _) | (with_reducible refine Kd.C_drew ?_) | exact HR699_0.out)) hb); have n6_ := Aside0.mk (Kd.C_below (by repeat (first | (with_reducible exact HR711_0.out) | (with_reducible refine Kd.C_alloc ?_ _) | (with_reducible refine Kd.C_drewN ?_ _) | (with_reducible refine Kd.C_drew ?_) | exact HR711_0.out)) hb); have n7_ := Aside0.mk (below_step (by repeat (first | (with_reducible first | exact HB.out | apply below_alloc | apply pw_below_drewN | apply below_drew1 | refine below_set ?_ GE674.out | refine below_set ?_ GE675.out) | exact HB.out)) hb); clear HO_11; clear HL699_0; clear HL711_0; clear BK674; clear BK675; clear HR699_0; clear HR711_0; clear HB; have HO_11 := n0_; have HL699_0 := n1_; have HL711_0 := n2_; have BK674 := n3_; have BK675 := n4_; have HR699_0 := n5_; have HR711_0 := n6_; have HB := n7_; clear n0_ n1_ n2_ n3_ n4_ n5_ n6_ n7_; (try clear hb); (try clear hb2); (try clear hk); (try clear hi)))
                 go_ret
                 exact ⟨by first | rfl | (rw [HE_.out]; done) | (simp [HE_.out]; done) | (simp [errW_none, errW_some] <;> rfl) | (simp only [← hji65, ← hji66]; first | rfl | (simp [errW_none, errW_some] <;> rfl)) | (simp [*, errW_none, errW_some] <;> rfl), by repeat (first | (with_reducible first | exact HB.out | apply below_alloc | apply pw_below_drewN | apply below_drew1 | refine below_set ?_ GE674.out | refine below_set ?_ GE675.out) | exact HB.out)⟩
             ·rw [if_neg c70] at H
              exact absurd H (by simp)
            ·rw [if_neg c69] at H
             exact absurd H (by simp)
           ·rw [if_neg c68] at H
            exact absurd H (by simp)
          ·rw [if_neg c67] at H
           exact absurd H (by simp)
     ·rw [if_neg c27] at H
      have c27b0 : ((t684.length : Int) == (l0_1.length : Int)) = false := beq_eq_false_iff_ne.mpr c27
      have c27b1 : ((t684.length : Int) != (l0_1.length : Int)) = true := bne_iff_ne.mpr c27
      have c27b2 : (t684.length == l0_1.length) = false := by first | simpa using c27 | (simp at c27 ⊢; omega)
      exact absurd H (by simp)
 ·replace c6 := Bool.eq_false_iff.mpr c6
  subst c6
  have H1 : (if t678 = 70 then (if t681 = t678 then (if (wrap64 ((wrap64 ((wrap64 (t676 + t677)) + t679)) + t680)) = 0 then ((skewbaldlaw07_pressed.f k).bind fun t683 => (some t683)) else (some false)) else (some false)) else (some false)) = some true := by rw [if_neg (show ¬ (false = true) by decide)] at H; exact H
  clear H
  have H := H1
  clear H1
  by_cases c145 : t678 = 70
  ·rw [if_pos c145] at H
   have c145b0 : (t678 == 70) = true := beq_iff_eq.mpr c145
   have c145b1 : (t678 != 70) = false := bne_eq_false_iff_eq.mpr c145
   clear c145
   by_cases c146 : t681 = t678
   ·rw [if_pos c146] at H
    have c146b0 : (t681 == t678) = true := beq_iff_eq.mpr c146
    have c146b1 : (t681 != t678) = false := bne_eq_false_iff_eq.mpr c146
    clear c146
    by_cases c147 : (wrap64 ((wrap64 ((wrap64 (t676 + t677)) + t679)) + t680)) = 0
    ·rw [if_pos c147] at H
     have c147b0 : ((wrap64 ((wrap64 ((wrap64 (t676 + t677)) + t679)) + t680)) == 0) = true := beq_iff_eq.mpr c147
     have c147b1 : ((wrap64 ((wrap64 ((wrap64 (t676 + t677)) + t679)) + t680)) != 0) = false := bne_eq_false_iff_eq.mpr c147
     clear c147
     replace H := Option.bind_eq_some_iff.mp H
     obtain ⟨t683, A1480, H⟩ := H
     replace H : (some t683) = some true := H
     have A148 := Aside0.mk A1480
     clear A1480
     as_aux_lemma =>
      have HE_ := Aside0.mk (Option.some.inj H)
      clear H
      go_enter Tryd.func15, Tryd.ntmps15
      go_wp2_with (first | ((with_reducible refine gate_dst (N := 2) rfl ?_); (try (refine gate_guard (by rfl) ?_; dsimp only)); refine box_event ?hg (N := 2) ?hd (cs := #[.int .i64 a0_0, .slice A0_1 l0_1.length c0_1]) (t := 24) ?hr ?_; (case hd => rfl); (case hg => rfl); (case hr => first | (go_simp; done) | (go_simp; rfl)); intro gb674 hg w149 hbox hb; have n0_ := Aside0.mk (below_step (by repeat (first | (with_reducible first | exact HB.out | apply below_alloc | apply pw_below_drewN | apply below_drew1) | exact HB.out)) hb); have n1_ := Aside0.mk (hbox); have n2_ := Aside0.mk ((by rw [hg]; exact (below_size (by repeat (first | (with_reducible first | exact HB.out | apply below_alloc | apply pw_below_drewN | apply below_drew1) | exact HB.out))) : w.heap.size ≤ gb674)); have n3_ := Aside0.mk ((by rw [hg]; exact (below_size (by repeat (first | (with_reducible first | exact HB.out | apply below_alloc | apply pw_below_drewN | apply below_drew1) | exact HB.out))) : w.heap.size ≤ gb674)); clear HB; have HB := n0_; have BK674 := n1_; have GW674 := n2_; have GE674 := n3_; clear n0_ n1_ n2_ n3_; clear hb hbox hg) | ((with_reducible refine gate_dst (N := 3) rfl ?_); (try (refine gate_guard (by rfl) ?_; dsimp only)); refine box_event ?hg (N := 3) ?hd (cs := #[.int .i64 a1_0, .int .i64 a1_1]) (t := 25) ?hr ?_; (case hd => rfl); (case hg => rfl); (case hr => first | (go_simp; done) | (go_simp; rfl)); intro gb675 hg w150 hbox hb; have n0_ := Aside0.mk (blk_below (g := gb674) (o := .cells #[.int .i64 a0_0, .slice A0_1 l0_1.length c0_1] 24 (0, 0)) (by (with_reducible repeat (first | refine blk_drewN ?_ _ | refine blk_drew ?_ | refine blk_alloc ?_ _)); exact BK674.out) hb); have n1_ := Aside0.mk (below_step (by repeat (first | (with_reducible first | exact HB.out | apply below_alloc | apply pw_below_drewN | apply below_drew1 | refine below_set ?_ GE674.out) | exact HB.out)) hb); have n2_ := Aside0.mk (hbox); have n3_ := Aside0.mk ((by rw [hg]; exact (below_size (by repeat (first | (with_reducible first | exact HB.out | apply below_alloc | apply pw_below_drewN | apply below_drew1 | refine below_set ?_ GE674.out) | exact HB.out))) : w.heap.size ≤ gb675)); have n4_ := Aside0.mk ((by rw [hg]; exact (below_size (by repeat (first | (with_reducible first | exact HB.out | apply below_alloc | apply pw_below_drewN | apply below_drew1 | refine below_set ?_ GE674.out) | exact HB.out))) : w.heap.size ≤ gb675)); have n5_ := Aside0.mk ((by rw [hg]; exact Nat.ne_of_lt (blk_lt (g := gb674) (o := .cells #[.int .i64 a0_0, .slice A0_1 l0_1.length c0_1] 24 (0, 0)) (by (with_reducible repeat (first | refine blk_drewN ?_ _ | refine blk_drew ?_ | refine blk_alloc ?_ _)); exact BK674.out)) : gb674 ≠ gb675)); have n6_ := Aside0.mk ((by rw [hg]; exact Nat.ne_of_gt (blk_lt (g := gb674) (o := .cells #[.int .i64 a0_0, .slice A0_1 l0_1.length c0_1] 24 (0, 0)) (by (with_reducible repeat (first | refine blk_drewN ?_ _ | refine blk_drew ?_ | refine blk_alloc ?_ _)); exact BK674.out)) : gb675 ≠ gb674)); clear BK674; clear HB; have BK674 := n0_; have HB := n1_; have BK675 := n2_; have GW675 := n3_; have GE675 := n4_; have NB674_675 := n5_; have NB675_674 := n6_; clear n0_ n1_ n2_ n3_ n4_ n5_ n6_; clear hb hbox hg; have hnb151 := NB674_675.out; have hnc151 := NB675_674.out; have hcz152_0 : w150.cell? ⟨gb674, 0, none⟩ = some (.int .i64 a0_0) := (blk_cell BK674.out 0).trans rfl; have hcz152_1 : w150.cell? ⟨gb674, 1, none⟩ = some (.slice A0_1 l0_1.length c0_1) := (blk_cell BK674.out 1).trans rfl; have hfz152_0 := blk_frozen BK674.out 0; have hfz152_1 := blk_frozen BK674.out 1) | ((with_reducible refine gate_callee (f := 44) rfl ?_); refine goesL_ (some 16) rfl rfl Tryd.func44 (by kernel_rfl) rfl #[.agg #[.int .i64 a0_0, .slice A0_1 l0_1.length c0_1]] rfl (by (try simp only [List.map_toArray, List.map_cons, List.map_nil]); first | done | rfl | (simp only [List.length_drop, List.length_take]; rfl)) ?_; (with_reducible refine (dapple_Clash.calls a0_0 _ _ l0_1 t676 t677 t678 _ ?side1 ?side2 ?side3 A3.out).mono ?_); (case side1 => repeat (first | exact (Kd.C_below HR0_1.out HB.out) | (with_reducible refine Kd.C_alloc ?_ _) | (with_reducible refine Kd.C_drewN ?_ _) | (with_reducible refine Kd.C_drew ?_))); (case side2 => exact HC0_1.out); (case side3 => exact Glob.below HGL.out (by repeat (first | (with_reducible first | exact HB.out | apply below_alloc | apply pw_below_drewN | apply below_drew1 | refine below_set ?_ GE674.out | refine below_set ?_ GE675.out) | exact HB.out))); rintro e w153 ⟨rfl, hb⟩; refine ⟨_, rfl, ?_⟩; have n0_ := Aside0.mk (blk_below (g := gb674) (o := .cells #[.int .i64 a0_0, .slice A0_1 l0_1.length c0_1] 24 (0, 0)) (by (with_reducible repeat (first | refine blk_drewN ?_ _ | refine blk_drew ?_ | refine blk_alloc ?_ _)); exact BK674.out) hb); have n1_ := Aside0.mk (blk_below (g := gb675) (o := .cells #[.int .i64 a1_0, .int .i64 a1_1] 25 (0, 0)) (by (with_reducible repeat (first | refine blk_drewN ?_ _ | refine blk_drew ?_ | refine blk_alloc ?_ _)); exact BK675.out) hb); have n2_ := Aside0.mk (below_step (by repeat (first | (with_reducible first | exact HB.out | apply below_alloc | apply pw_below_drewN | apply below_drew1 | refine below_set ?_ GE674.out | refine below_set ?_ GE675.out) | exact HB.out)) hb); clear BK674; clear BK675; clear HB; have BK674 := n0_; have BK675 := n1_; have HB := n2_; clear n0_ n1_ n2_; (try clear hb); (try clear hb2); (try clear hk); (try clear hi); have hcz154_0 : w153.cell? ⟨gb674, 0, none⟩ = some (.int .i64 a0_0) := (blk_cell BK674.out 0).trans rfl; have hcz154_1 : w153.cell? ⟨gb674, 1, none⟩ = some (.slice A0_1 l0_1.length c0_1) := (blk_cell BK674.out 1).trans rfl; have hfz154_0 := blk_frozen BK674.out 0; have hfz154_1 := blk_frozen BK674.out 1) | ((with_reducible refine gate_callee (f := 53) rfl ?_); refine goesL_ (some 22) rfl rfl Tryd.func53 (by kernel_rfl) rfl #[.agg #[.int .i64 a0_0, .slice A0_1 l0_1.length c0_1]] rfl (by (try simp only [List.map_toArray, List.map_cons, List.map_nil]); first | done | rfl | (simp only [List.length_drop, List.length_take]; rfl)) ?_; (with_reducible refine (dapple_Sure.calls a0_0 _ _ l0_1 t679 t680 t681 _ ?side1 ?side2 ?side3 A4.out).mono ?_); (case side1 => repeat (first | exact (Kd.C_below HR0_1.out HB.out) | (with_reducible refine Kd.C_alloc ?_ _) | (with_reducible refine Kd.C_drewN ?_ _) | (with_reducible refine Kd.C_drew ?_))); (case side2 => exact HC0_1.out); (case side3 => exact Glob.below HGL.out (by repeat (first | (with_reducible first | exact HB.out | apply below_alloc | apply pw_below_drewN | apply below_drew1 | refine below_set ?_ GE674.out | refine below_set ?_ GE675.out) | exact HB.out))); rintro e w155 ⟨rfl, hb⟩; refine ⟨_, rfl, ?_⟩; have n0_ := Aside0.mk (blk_below (g := gb674) (o := .cells #[.int .i64 a0_0, .slice A0_1 l0_1.length c0_1] 24 (0, 0)) (by (with_reducible repeat (first | refine blk_drewN ?_ _ | refine blk_drew ?_ | refine blk_alloc ?_ _)); exact BK674.out) hb); have n1_ := Aside0.mk (blk_below (g := gb675) (o := .cells #[.int .i64 a1_0, .int .i64 a1_1] 25 (0, 0)) (by (with_reducible repeat (first | refine blk_drewN ?_ _ | refine blk_drew ?_ | refine blk_alloc ?_ _)); exact BK675.out) hb); have n2_ := Aside0.mk (below_step (by repeat (first | (with_reducible first | exact HB.out | apply below_alloc | apply pw_below_drewN | apply below_drew1 | refine below_set ?_ GE674.out | refine below_set ?_ GE675.out) | exact HB.out)) hb); clear BK674; clear BK675; clear HB; have BK674 := n0_; have BK675 := n1_; have HB := n2_; clear n0_ n1_ n2_; (try clear hb); (try clear hb2); (try clear hk); (try clear hi); have hcz156_0 : w155.cell? ⟨gb674, 0, none⟩ = some (.int .i64 a0_0) := (blk_cell BK674.out 0).trans rfl; have hcz156_1 : w155.cell? ⟨gb674, 1, none⟩ = some (.slice A0_1 l0_1.length c0_1) := (blk_cell BK674.out 1).trans rfl; have hfz156_0 := blk_frozen BK674.out 0; have hfz156_1 := blk_frozen BK674.out 1) | ((with_reducible refine gate_callee (f := 29) rfl ?_); refine goesL_ (some 27) rfl rfl Tryd.func29 (by kernel_rfl) rfl #[.agg #[.int .i64 a0_0, .slice A0_1 l0_1.length c0_1]] rfl (by (try simp only [List.map_toArray, List.map_cons, List.map_nil]); first | done | rfl | (simp only [List.length_drop, List.length_take]; rfl)) ?_; (with_reducible refine (skewbaldlaw07_sound.calls k a0_0 _ _ l0_1 false _ ?side1 ?side2 A5.out).mono ?_); (case side1 => repeat (first | exact (Kd.C_below HR0_1.out HB.out) | (with_reducible refine Kd.C_alloc ?_ _) | (with_reducible refine Kd.C_drewN ?_ _) | (with_reducible refine Kd.C_drew ?_))); (case side2 => exact HC0_1.out); rintro e w157 ⟨rfl, hb⟩; refine ⟨_, rfl, ?_⟩; have n0_ := Aside0.mk (blk_below (g := gb674) (o := .cells #[.int .i64 a0_0, .slice A0_1 l0_1.length c0_1] 24 (0, 0)) (by (with_reducible repeat (first | refine blk_drewN ?_ _ | refine blk_drew ?_ | refine blk_alloc ?_ _)); exact BK674.out) hb); have n1_ := Aside0.mk (blk_below (g := gb675) (o := .cells #[.int .i64 a1_0, .int .i64 a1_1] 25 (0, 0)) (by (with_reducible repeat (first | refine blk_drewN ?_ _ | refine blk_drew ?_ | refine blk_alloc ?_ _)); exact BK675.out) hb); have n2_ := Aside0.mk (below_step (by repeat (first | (with_reducible first | exact HB.out | apply below_alloc | apply pw_below_drewN | apply below_drew1 | refine below_set ?_ GE674.out | refine below_set ?_ GE675.out) | exact HB.out)) hb); clear BK674; clear BK675; clear HB; have BK674 := n0_; have BK675 := n1_; have HB := n2_; clear n0_ n1_ n2_; (try clear hb); (try clear hb2); (try clear hk); (try clear hi)) | (go_at_call 24; (with_reducible refine (skewbaldlaw07_pressed.calls k  t683 _ ?side1 A148.out).mono ?_); (case side1 => exact Glob.below HGL.out (by repeat (first | (with_reducible first | exact HB.out | apply below_alloc | apply pw_below_drewN | apply below_drew1 | refine below_set ?_ GE674.out | refine below_set ?_ GE675.out) | exact HB.out))); rintro e w158 ⟨rfl, hb⟩; have n0_ := Aside0.mk (blk_below (g := gb674) (o := .cells #[.int .i64 a0_0, .slice A0_1 l0_1.length c0_1] 24 (0, 0)) (by (with_reducible repeat (first | refine blk_drewN ?_ _ | refine blk_drew ?_ | refine blk_alloc ?_ _)); exact BK674.out) hb); have n1_ := Aside0.mk (blk_below (g := gb675) (o := .cells #[.int .i64 a1_0, .int .i64 a1_1] 25 (0, 0)) (by (with_reducible repeat (first | refine blk_drewN ?_ _ | refine blk_drew ?_ | refine blk_alloc ?_ _)); exact BK675.out) hb); have n2_ := Aside0.mk (below_step (by repeat (first | (with_reducible first | exact HB.out | apply below_alloc | apply pw_below_drewN | apply below_drew1 | refine below_set ?_ GE674.out | refine below_set ?_ GE675.out) | exact HB.out)) hb); clear BK674; clear BK675; clear HB; have BK674 := n0_; have BK675 := n1_; have HB := n2_; clear n0_ n1_ n2_; (try clear hb); (try clear hb2); (try clear hk); (try clear hi)))
      go_ret
      exact ⟨by first | rfl | (rw [HE_.out]; done) | (simp [HE_.out]; done) | (simp [errW_none, errW_some] <;> rfl) | (simp [*, errW_none, errW_some] <;> rfl), by repeat (first | (with_reducible first | exact HB.out | apply below_alloc | apply pw_below_drewN | apply below_drew1 | refine below_set ?_ GE674.out | refine below_set ?_ GE675.out) | exact HB.out)⟩
    ·rw [if_neg c147] at H
     have c147b0 : ((wrap64 ((wrap64 ((wrap64 (t676 + t677)) + t679)) + t680)) == 0) = false := beq_eq_false_iff_ne.mpr c147
     have c147b1 : ((wrap64 ((wrap64 ((wrap64 (t676 + t677)) + t679)) + t680)) != 0) = true := bne_iff_ne.mpr c147
     exact absurd H (by simp)
   ·rw [if_neg c146] at H
    have c146b0 : (t681 == t678) = false := beq_eq_false_iff_ne.mpr c146
    have c146b1 : (t681 != t678) = true := bne_iff_ne.mpr c146
    exact absurd H (by simp)
  ·rw [if_neg c145] at H
   have c145b0 : (t678 == 70) = false := beq_eq_false_iff_ne.mpr c145
   have c145b1 : (t678 != 70) = true := bne_iff_ne.mpr c145
   exact absurd H (by simp)

end Go.Proofs.YtdllacjkacmghaaDoor.DT
