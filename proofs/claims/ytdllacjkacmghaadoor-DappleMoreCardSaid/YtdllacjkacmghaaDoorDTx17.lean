/- Printed by a program (prx.py). -/
import Derived.Test.YtdllacjkacmghaaDoorDTx0
import Derived.Test.YtdllacjkacmghaaDoorDTx2
import Derived.Test.YtdllacjkacmghaaDoorDTx3
import Derived.Test.YtdllacjkacmghaaDoorDTx8
import Derived.Test.YtdllacjkacmghaaDoorDTx11
import Derived.Test.YtdllacjkacmghaaDoorDTx13
namespace Go.Proofs.YtdllacjkacmghaaDoor.DT
open Go.Proofs.YtdllacjkacmghaaDoorD Go.Proofs.YtdllacjkacmghaaDoorK
open Go.RowKit Go.Proofs.YtdllacjkacmghaaDoorW.PrintWords Go.Proofs.YtdllacjkacmghaaDoorW.PrintLast Go.Proofs.YtdllacjkacmghaaDoorW.PrintMore
attribute [local go_sem] max2_int min2_int max_two min_two max_three min_three max_four min_four   -- for this text's walks alone
set_option linter.unusedVariables false
set_option linter.unusedSimpArgs false

/-! ### skewbaldlaw07_DappleMore: function 12 -/
mutual
def skewbaldlaw07_DappleMore.j0 : Nat → List Int → List (List Int) → List (List Int) → Bool → Int → List (List Int) → Int → List (List Int) → Option (Bool)
 | 0, _, _, _, _, _, _, _, _ => none
 | k + 1, x2, x10, x11, x75, x541000, x541001, x557000, x557001 => if x75 = true then (some false) else (skewbaldlaw07_DappleMore.l0 k x2 x10 x11 0 x541000 x541001 x557000 x557001)
def skewbaldlaw07_DappleMore.l0 : Nat → List Int → List (List Int) → List (List Int) → Int → Int → List (List Int) → Int → List (List Int) → Option (Bool)
 | 0, _, _, _, _, _, _, _, _ => none
 | k + 1, x2, x10, x11, x12, x541000, x541001, x557000, x557001 => if x12 < (x10.length : Int) then (skewbaldlaw07_DappleMore.l1 k x2 x10 x11 x12 0 x541000 x541001 x557000 x557001) else ((skewbaldlaw07_sizes.f k x541000 x2).bind fun t575 => ((dapple_Whose.f x541000 x541001 t575).bind fun bt578 => ((dapple_Whose.f x557000 x557001 t575).bind fun bt582 => (if bt578.2 = 0 then (skewbaldlaw07_DappleMore.j3 k bt578.1 bt582.1 (bt582.2 != 0) x541000 x541001 x557000 x557001) else (skewbaldlaw07_DappleMore.j3 k bt578.1 bt582.1 true x541000 x541001 x557000 x557001)))))
def skewbaldlaw07_DappleMore.l1 : Nat → List Int → List (List Int) → List (List Int) → Int → Int → Int → List (List Int) → Int → List (List Int) → Option (Bool)
 | 0, _, _, _, _, _, _, _, _, _ => none
 | k + 1, x2, x10, x11, x12, x13, x541000, x541001, x557000, x557001 => if x13 < (x10.length : Int) then (if 0 ≤ x12 then (if x12 < (x10.length : Int) then (if 0 ≤ x13 then (if x13 < ((rd_L1 x10 x12).length : Int) then (if (rd (rd_L1 x10 x12) x13) = 0 then (if x12 < (x11.length : Int) then (if x13 < ((rd_L1 x11 x12).length : Int) then (if (rd (rd_L1 x11 x12) x13) > 0 then (some false) else (if (rd (rd_L1 x10 x12) x13) = 2 then (if (rd (rd_L1 x11 x12) x13) = 2 then (skewbaldlaw07_DappleMore.l1 k x2 x10 x11 x12 (wrap64 (x13 + 1)) x541000 x541001 x557000 x557001) else (some false)) else (skewbaldlaw07_DappleMore.l1 k x2 x10 x11 x12 (wrap64 (x13 + 1)) x541000 x541001 x557000 x557001))) else (none)) else (none)) else (if (rd (rd_L1 x10 x12) x13) = 2 then (if x12 < (x11.length : Int) then (if x13 < ((rd_L1 x11 x12).length : Int) then (if (rd (rd_L1 x11 x12) x13) = 2 then (skewbaldlaw07_DappleMore.l1 k x2 x10 x11 x12 (wrap64 (x13 + 1)) x541000 x541001 x557000 x557001) else (some false)) else (none)) else (none)) else (skewbaldlaw07_DappleMore.l1 k x2 x10 x11 x12 (wrap64 (x13 + 1)) x541000 x541001 x557000 x557001))) else (none)) else (none)) else (none)) else (none)) else (skewbaldlaw07_DappleMore.l0 k x2 x10 x11 (wrap64 (x12 + 1)) x541000 x541001 x557000 x557001)
def skewbaldlaw07_DappleMore.j3 : Nat → List Int → List Int → Bool → Int → List (List Int) → Int → List (List Int) → Option (Bool)
 | 0, _, _, _, _, _, _, _ => none
 | k + 1, x15, x17, x147, x541000, x541001, x557000, x557001 => if x147 = true then (some false) else (skewbaldlaw07_DappleMore.l2 k x15 x17 0 x541000 x541001 x557000 x557001)
def skewbaldlaw07_DappleMore.l2 : Nat → List Int → List Int → Int → Int → List (List Int) → Int → List (List Int) → Option (Bool)
 | 0, _, _, _, _, _, _, _ => none
 | k + 1, x15, x17, x19, x541000, x541001, x557000, x557001 => if x19 < (x17.length : Int) then (if 0 ≤ x19 then ((skewbaldref00_Find.f k x15 (rd x17 x19)).bind fun t587 => (if t587 < 0 then (some false) else (skewbaldlaw07_DappleMore.l2 k x15 x17 (wrap64 (x19 + 1)) x541000 x541001 x557000 x557001))) else (none)) else ((dapple_New.f x541000 x541001).bind fun bt588 => ((dapple_New.f x557000 x557001).bind fun bt592 => ((dapple_Drop.f x541000 x541001).bind fun bt596 => ((dapple_Drop.f x557000 x557001).bind fun bt600 => (if bt588.2 = 0 then (if bt592.2 = 0 then ((skewbaldref00_Less.f k bt588.1 bt592.1).bind fun t604 => (if t604 = true then (some false) else (if bt596.2 = 0 then (if bt600.2 = 0 then (if (bt600.1.length : Int) ≤ (bt596.1.length : Int) then ((skewbaldlaw07_pressed.f k).bind fun t605 => (some t605)) else (some false)) else (some false)) else (some false)))) else (some false)) else (if bt596.2 = 0 then (if bt600.2 = 0 then (if (bt600.1.length : Int) ≤ (bt596.1.length : Int) then ((skewbaldlaw07_pressed.f k).bind fun t606 => (some t606)) else (some false)) else (some false)) else (some false)))))))
end
def skewbaldlaw07_DappleMore.f (k : Nat) (a0_0 : Int) (l0_1 : List (List Int)) (a1_0 : Int) (a1_1 : Int) (a1_2 : Int) (l2 : List Int) : Option (Bool) := (skewbaldlaw07_sound.f k a0_0 l0_1).bind fun t542 => (if t542 = true then ((skewbaldref00_Round.f a1_0 (l0_1.length : Int)).bind fun t544 => ((skewbaldref00_Round.f a1_1 a0_0).bind fun t545 => (if 0 ≤ t544 then (if t544 < (l0_1.length : Int) then (if 0 ≤ t545 then (if t545 < ((rd_L1 l0_1 t544).length : Int) then ((skewbaldref00_List.f k (rd (rd_L1 l0_1 t544) t545) 4).bind fun t548 => ((skewbaldref00_Take.f t548 a1_2).bind fun t551 => ((skewbaldlaw07_known.f a0_0 l0_1 t544 t545 t551).bind fun bt552 => ((skewbaldlaw07_kinds.f k a0_0 l0_1).bind fun t557 => ((skewbaldlaw07_kinds.f k bt552.1 bt552.2).bind fun t560 => (if (t557.length : Int) = (l0_1.length : Int) then (skewbaldlaw07_DappleMore.j0 k l2 t557 t560 ((t560.length : Int) != (t557.length : Int)) a0_0 l0_1 bt552.1 bt552.2) else (skewbaldlaw07_DappleMore.j0 k l2 t557 t560 true a0_0 l0_1 bt552.1 bt552.2))))))) else (none)) else (none)) else (none)) else (none)))) else ((skewbaldlaw07_pressed.f k).bind fun t543 => (some t543)))
def skewbaldlaw07_DappleMore.T3 : Bool × List (List Nat × List Nat) := (true, [([], []), ([0], [0]), ([], []), ([2], [2]), ([3], [3]), ([1, 4], [1, 4]), ([], []), ([6], [6]), ([], []), ([8], [8]), ([7, 9, 5], [7, 9]), ([5, 10, 0, 1, 2, 3, 4, 5], [5]), ([10, 11, 0, 1, 2, 3, 4, 5, 6, 7, 8, 9, 10, 11], [10])])
def skewbaldlaw07_DappleMore.B3 : List Nat := [0, 1, 0, 4, 12, 31, 0, 64, 0, 256, 1023, 2047, 4095]
theorem skewbaldlaw07_DappleMore.tab3 : rtab .any (opsOf Tryd.f12 3) = skewbaldlaw07_DappleMore.T3 := by kernel_rfl
theorem skewbaldlaw07_DappleMore.bits3 : waitsOk skewbaldlaw07_DappleMore.T3.2 skewbaldlaw07_DappleMore.B3 = true := by kernel_rfl
def skewbaldlaw07_DappleMore.T4 : Bool × List (List Nat × List Nat) := (true, [([], []), ([], []), ([], []), ([], []), ([3], [3]), ([], []), ([4, 5], [4, 5]), ([6], [6]), ([], []), ([7, 8], [7, 8]), ([9], [9]), ([10], [10]), ([], []), ([12], [12]), ([11, 13, 11], [11, 13]), ([0, 1, 2, 14, 14], [0, 1, 2, 14]), ([], []), ([16, 15, 15, 0, 1, 2, 3, 4, 5, 6, 7, 8, 9, 10, 11, 12, 13, 14, 15, 16], [15, 16])])
def skewbaldlaw07_DappleMore.B4 : List Nat := [0, 0, 0, 0, 8, 0, 56, 120, 0, 504, 1016, 2040, 0, 4096, 16376, 32767, 0, 131071]
theorem skewbaldlaw07_DappleMore.tab4 : rtab .any (opsOf Tryd.f12 4) = skewbaldlaw07_DappleMore.T4 := by kernel_rfl
theorem skewbaldlaw07_DappleMore.bits4 : waitsOk skewbaldlaw07_DappleMore.T4.2 skewbaldlaw07_DappleMore.B4 = true := by kernel_rfl
set_option maxHeartbeats 8000000 in
set_option maxRecDepth 100000 in
theorem skewbaldlaw07_DappleMore.calls (k : Nat) (a0_0 : Int) (A0_1 : Option Addr) (c0_1 : Nat) (l0_1 : List (List Int)) (a1_0 : Int) (a1_1 : Int) (a1_2 : Int) (A2 : Option Addr) (c2 : Nat) (l2 : List Int) (w : World) (hr0_1 : Kd.C (Kd.slice 3 (Kd.int .i64)) w A0_1 l0_1.length l0_1) (hc0_1 : l0_1.length ≤ c0_1) (hr2 : Kd.C (Kd.int .i64) w A2 l2.length l2) (hc2 : l2.length ≤ c2) (hG : Glob w) (h : skewbaldlaw07_DappleMore.f k a0_0 l0_1 a1_0 a1_1 a1_2 l2 = some true) :
  Calls Tryd.prog 12 #[.agg #[.int .i64 a0_0, .slice A0_1 l0_1.length c0_1], .agg #[.int .i64 a1_0, .int .i64 a1_1, .int .i64 a1_2], .slice A2 l2.length c2] w fun e w' => e = .returned (.bool true) ∧ Below w.heap.size w w' := by
 have hu24 := Tryd.underlying24
 have hu49 := Tryd.underlying49
 have HR0_1 := Aside0.mk hr0_1
 have HC0_1 := Aside0.mk hc0_1
 clear hr0_1 hc0_1
 have HR2 := Aside0.mk hr2
 have HC2 := Aside0.mk hc2
 clear hr2 hc2
 have HGL := Aside0.mk hG
 clear hG
 have HB := Aside0.mk (Below.refl w.heap.size w)
 have H : ((skewbaldlaw07_sound.f k a0_0 l0_1).bind fun t542 => (if t542 = true then ((skewbaldref00_Round.f a1_0 (l0_1.length : Int)).bind fun t544 => ((skewbaldref00_Round.f a1_1 a0_0).bind fun t545 => (if 0 ≤ t544 then (if t544 < (l0_1.length : Int) then (if 0 ≤ t545 then (if t545 < ((rd_L1 l0_1 t544).length : Int) then ((skewbaldref00_List.f k (rd (rd_L1 l0_1 t544) t545) 4).bind fun t548 => ((skewbaldref00_Take.f t548 a1_2).bind fun t551 => ((skewbaldlaw07_known.f a0_0 l0_1 t544 t545 t551).bind fun bt552 => ((skewbaldlaw07_kinds.f k a0_0 l0_1).bind fun t557 => ((skewbaldlaw07_kinds.f k bt552.1 bt552.2).bind fun t560 => (if (t557.length : Int) = (l0_1.length : Int) then (skewbaldlaw07_DappleMore.j0 k l2 t557 t560 ((t560.length : Int) != (t557.length : Int)) a0_0 l0_1 bt552.1 bt552.2) else (skewbaldlaw07_DappleMore.j0 k l2 t557 t560 true a0_0 l0_1 bt552.1 bt552.2))))))) else (none)) else (none)) else (none)) else (none)))) else ((skewbaldlaw07_pressed.f k).bind fun t543 => (some t543)))) = some true := h
 clear h
 replace H := Option.bind_eq_some_iff.mp H
 obtain ⟨t542, A40, H⟩ := H
 replace H : (if t542 = true then ((skewbaldref00_Round.f a1_0 (l0_1.length : Int)).bind fun t544 => ((skewbaldref00_Round.f a1_1 a0_0).bind fun t545 => (if 0 ≤ t544 then (if t544 < (l0_1.length : Int) then (if 0 ≤ t545 then (if t545 < ((rd_L1 l0_1 t544).length : Int) then ((skewbaldref00_List.f k (rd (rd_L1 l0_1 t544) t545) 4).bind fun t548 => ((skewbaldref00_Take.f t548 a1_2).bind fun t551 => ((skewbaldlaw07_known.f a0_0 l0_1 t544 t545 t551).bind fun bt552 => ((skewbaldlaw07_kinds.f k a0_0 l0_1).bind fun t557 => ((skewbaldlaw07_kinds.f k bt552.1 bt552.2).bind fun t560 => (if (t557.length : Int) = (l0_1.length : Int) then (skewbaldlaw07_DappleMore.j0 k l2 t557 t560 ((t560.length : Int) != (t557.length : Int)) a0_0 l0_1 bt552.1 bt552.2) else (skewbaldlaw07_DappleMore.j0 k l2 t557 t560 true a0_0 l0_1 bt552.1 bt552.2))))))) else (none)) else (none)) else (none)) else (none)))) else ((skewbaldlaw07_pressed.f k).bind fun t543 => (some t543))) = some true := H
 have A4 := Aside0.mk A40
 clear A40
 by_cases c5 : t542 = true
 ·subst c5
  have H1 : ((skewbaldref00_Round.f a1_0 (l0_1.length : Int)).bind fun t544 => ((skewbaldref00_Round.f a1_1 a0_0).bind fun t545 => (if 0 ≤ t544 then (if t544 < (l0_1.length : Int) then (if 0 ≤ t545 then (if t545 < ((rd_L1 l0_1 t544).length : Int) then ((skewbaldref00_List.f k (rd (rd_L1 l0_1 t544) t545) 4).bind fun t548 => ((skewbaldref00_Take.f t548 a1_2).bind fun t551 => ((skewbaldlaw07_known.f a0_0 l0_1 t544 t545 t551).bind fun bt552 => ((skewbaldlaw07_kinds.f k a0_0 l0_1).bind fun t557 => ((skewbaldlaw07_kinds.f k bt552.1 bt552.2).bind fun t560 => (if (t557.length : Int) = (l0_1.length : Int) then (skewbaldlaw07_DappleMore.j0 k l2 t557 t560 ((t560.length : Int) != (t557.length : Int)) a0_0 l0_1 bt552.1 bt552.2) else (skewbaldlaw07_DappleMore.j0 k l2 t557 t560 true a0_0 l0_1 bt552.1 bt552.2))))))) else (none)) else (none)) else (none)) else (none)))) = some true := by rw [if_pos rfl] at H; exact H
  clear H
  have H := H1
  clear H1
  replace H := Option.bind_eq_some_iff.mp H
  obtain ⟨t544, A60, H⟩ := H
  replace H : ((skewbaldref00_Round.f a1_1 a0_0).bind fun t545 => (if 0 ≤ t544 then (if t544 < (l0_1.length : Int) then (if 0 ≤ t545 then (if t545 < ((rd_L1 l0_1 t544).length : Int) then ((skewbaldref00_List.f k (rd (rd_L1 l0_1 t544) t545) 4).bind fun t548 => ((skewbaldref00_Take.f t548 a1_2).bind fun t551 => ((skewbaldlaw07_known.f a0_0 l0_1 t544 t545 t551).bind fun bt552 => ((skewbaldlaw07_kinds.f k a0_0 l0_1).bind fun t557 => ((skewbaldlaw07_kinds.f k bt552.1 bt552.2).bind fun t560 => (if (t557.length : Int) = (l0_1.length : Int) then (skewbaldlaw07_DappleMore.j0 k l2 t557 t560 ((t560.length : Int) != (t557.length : Int)) a0_0 l0_1 bt552.1 bt552.2) else (skewbaldlaw07_DappleMore.j0 k l2 t557 t560 true a0_0 l0_1 bt552.1 bt552.2))))))) else (none)) else (none)) else (none)) else (none))) = some true := H
  have A6 := Aside0.mk A60
  clear A60
  replace H := Option.bind_eq_some_iff.mp H
  obtain ⟨t545, A70, H⟩ := H
  replace H : (if 0 ≤ t544 then (if t544 < (l0_1.length : Int) then (if 0 ≤ t545 then (if t545 < ((rd_L1 l0_1 t544).length : Int) then ((skewbaldref00_List.f k (rd (rd_L1 l0_1 t544) t545) 4).bind fun t548 => ((skewbaldref00_Take.f t548 a1_2).bind fun t551 => ((skewbaldlaw07_known.f a0_0 l0_1 t544 t545 t551).bind fun bt552 => ((skewbaldlaw07_kinds.f k a0_0 l0_1).bind fun t557 => ((skewbaldlaw07_kinds.f k bt552.1 bt552.2).bind fun t560 => (if (t557.length : Int) = (l0_1.length : Int) then (skewbaldlaw07_DappleMore.j0 k l2 t557 t560 ((t560.length : Int) != (t557.length : Int)) a0_0 l0_1 bt552.1 bt552.2) else (skewbaldlaw07_DappleMore.j0 k l2 t557 t560 true a0_0 l0_1 bt552.1 bt552.2))))))) else (none)) else (none)) else (none)) else (none)) = some true := H
  have A7 := Aside0.mk A70
  clear A70
  by_cases c8 : 0 ≤ t544
  ·rw [if_pos c8] at H
   have c8b0 : decide (0 ≤ t544) = true := decide_eq_true c8
   clear c8
   by_cases c9 : t544 < (l0_1.length : Int)
   ·rw [if_pos c9] at H
    have c9b0 : decide (t544 < (l0_1.length : Int)) = true := decide_eq_true c9
    clear c9
    by_cases c10 : 0 ≤ t545
    ·rw [if_pos c10] at H
     have c10b0 : decide (0 ≤ t545) = true := decide_eq_true c10
     clear c10
     by_cases c11 : t545 < ((rd_L1 l0_1 t544).length : Int)
     ·rw [if_pos c11] at H
      have c11b0 : decide (t545 < ((rd_L1 l0_1 t544).length : Int)) = true := decide_eq_true c11
      clear c11
      replace H := Option.bind_eq_some_iff.mp H
      obtain ⟨t548, A120, H⟩ := H
      replace H : ((skewbaldref00_Take.f t548 a1_2).bind fun t551 => ((skewbaldlaw07_known.f a0_0 l0_1 t544 t545 t551).bind fun bt552 => ((skewbaldlaw07_kinds.f k a0_0 l0_1).bind fun t557 => ((skewbaldlaw07_kinds.f k bt552.1 bt552.2).bind fun t560 => (if (t557.length : Int) = (l0_1.length : Int) then (skewbaldlaw07_DappleMore.j0 k l2 t557 t560 ((t560.length : Int) != (t557.length : Int)) a0_0 l0_1 bt552.1 bt552.2) else (skewbaldlaw07_DappleMore.j0 k l2 t557 t560 true a0_0 l0_1 bt552.1 bt552.2)))))) = some true := H
      have A12 := Aside0.mk A120
      clear A120
      replace H := Option.bind_eq_some_iff.mp H
      obtain ⟨t551, A130, H⟩ := H
      replace H : ((skewbaldlaw07_known.f a0_0 l0_1 t544 t545 t551).bind fun bt552 => ((skewbaldlaw07_kinds.f k a0_0 l0_1).bind fun t557 => ((skewbaldlaw07_kinds.f k bt552.1 bt552.2).bind fun t560 => (if (t557.length : Int) = (l0_1.length : Int) then (skewbaldlaw07_DappleMore.j0 k l2 t557 t560 ((t560.length : Int) != (t557.length : Int)) a0_0 l0_1 bt552.1 bt552.2) else (skewbaldlaw07_DappleMore.j0 k l2 t557 t560 true a0_0 l0_1 bt552.1 bt552.2))))) = some true := H
      have A13 := Aside0.mk A130
      clear A130
      replace H := Option.bind_eq_some_iff.mp H
      obtain ⟨⟨t552, t553⟩, A140, H⟩ := H
      replace H : ((skewbaldlaw07_kinds.f k a0_0 l0_1).bind fun t557 => ((skewbaldlaw07_kinds.f k t552 t553).bind fun t560 => (if (t557.length : Int) = (l0_1.length : Int) then (skewbaldlaw07_DappleMore.j0 k l2 t557 t560 ((t560.length : Int) != (t557.length : Int)) a0_0 l0_1 t552 t553) else (skewbaldlaw07_DappleMore.j0 k l2 t557 t560 true a0_0 l0_1 t552 t553)))) = some true := H
      have A14 := Aside0.mk A140
      clear A140
      replace H := Option.bind_eq_some_iff.mp H
      obtain ⟨t557, A150, H⟩ := H
      replace H : ((skewbaldlaw07_kinds.f k t552 t553).bind fun t560 => (if (t557.length : Int) = (l0_1.length : Int) then (skewbaldlaw07_DappleMore.j0 k l2 t557 t560 ((t560.length : Int) != (t557.length : Int)) a0_0 l0_1 t552 t553) else (skewbaldlaw07_DappleMore.j0 k l2 t557 t560 true a0_0 l0_1 t552 t553))) = some true := H
      have A15 := Aside0.mk A150
      clear A150
      replace H := Option.bind_eq_some_iff.mp H
      obtain ⟨t560, A160, H⟩ := H
      replace H : (if (t557.length : Int) = (l0_1.length : Int) then (skewbaldlaw07_DappleMore.j0 k l2 t557 t560 ((t560.length : Int) != (t557.length : Int)) a0_0 l0_1 t552 t553) else (skewbaldlaw07_DappleMore.j0 k l2 t557 t560 true a0_0 l0_1 t552 t553)) = some true := H
      have A16 := Aside0.mk A160
      clear A160
      have HC17 := Aside0.mk H
      clear H
      go_enter Tryd.func12, Tryd.ntmps12
      try go_wp2_with (first | ((with_reducible refine gate_dst (N := 3) rfl ?_); (try (refine gate_guard (by rfl) ?_; dsimp only)); refine box_event ?hg (N := 3) ?hd (cs := #[.int .i64 a0_0, .slice A0_1 l0_1.length c0_1]) (t := 24) ?hr ?_; (case hd => rfl); (case hg => rfl); (case hr => first | (go_simp; done) | (go_simp; rfl)); intro gb540 hg w18 hbox hb; have n0_ := Aside0.mk (below_step (by repeat (first | (with_reducible first | exact HB.out | apply below_alloc | apply pw_below_drewN | apply below_drew1) | exact HB.out)) hb); have n1_ := Aside0.mk (hbox); have n2_ := Aside0.mk ((by rw [hg]; exact (below_size (by repeat (first | (with_reducible first | exact HB.out | apply below_alloc | apply pw_below_drewN | apply below_drew1) | exact HB.out))) : w.heap.size ≤ gb540)); have n3_ := Aside0.mk ((by rw [hg]; exact (below_size (by repeat (first | (with_reducible first | exact HB.out | apply below_alloc | apply pw_below_drewN | apply below_drew1) | exact HB.out))) : w.heap.size ≤ gb540)); clear HB; have HB := n0_; have BK540 := n1_; have GW540 := n2_; have GE540 := n3_; clear n0_ n1_ n2_ n3_; clear hb hbox hg) | ((with_reducible refine gate_dst (N := 4) rfl ?_); (try (refine gate_guard (by rfl) ?_; dsimp only)); refine box_event ?hg (N := 4) ?hd (cs := #[.int .i64 a1_0, .int .i64 a1_1, .int .i64 a1_2]) (t := 49) ?hr ?_; (case hd => rfl); (case hg => rfl); (case hr => first | (go_simp; done) | (go_simp; rfl)); intro gb541 hg w19 hbox hb; have n0_ := Aside0.mk (blk_below (g := gb540) (o := .cells #[.int .i64 a0_0, .slice A0_1 l0_1.length c0_1] 24 (0, 0)) (by (with_reducible repeat (first | refine blk_drewN ?_ _ | refine blk_drew ?_ | refine blk_alloc ?_ _)); exact BK540.out) hb); have n1_ := Aside0.mk (below_step (by repeat (first | (with_reducible first | exact HB.out | apply below_alloc | apply pw_below_drewN | apply below_drew1 | refine below_set ?_ GE540.out) | exact HB.out)) hb); have n2_ := Aside0.mk (hbox); have n3_ := Aside0.mk ((by rw [hg]; exact (below_size (by repeat (first | (with_reducible first | exact HB.out | apply below_alloc | apply pw_below_drewN | apply below_drew1 | refine below_set ?_ GE540.out) | exact HB.out))) : w.heap.size ≤ gb541)); have n4_ := Aside0.mk ((by rw [hg]; exact (below_size (by repeat (first | (with_reducible first | exact HB.out | apply below_alloc | apply pw_below_drewN | apply below_drew1 | refine below_set ?_ GE540.out) | exact HB.out))) : w.heap.size ≤ gb541)); have n5_ := Aside0.mk ((by rw [hg]; exact Nat.ne_of_lt (blk_lt (g := gb540) (o := .cells #[.int .i64 a0_0, .slice A0_1 l0_1.length c0_1] 24 (0, 0)) (by (with_reducible repeat (first | refine blk_drewN ?_ _ | refine blk_drew ?_ | refine blk_alloc ?_ _)); exact BK540.out)) : gb540 ≠ gb541)); have n6_ := Aside0.mk ((by rw [hg]; exact Nat.ne_of_gt (blk_lt (g := gb540) (o := .cells #[.int .i64 a0_0, .slice A0_1 l0_1.length c0_1] 24 (0, 0)) (by (with_reducible repeat (first | refine blk_drewN ?_ _ | refine blk_drew ?_ | refine blk_alloc ?_ _)); exact BK540.out)) : gb541 ≠ gb540)); clear BK540; clear HB; have BK540 := n0_; have HB := n1_; have BK541 := n2_; have GW541 := n3_; have GE541 := n4_; have NB540_541 := n5_; have NB541_540 := n6_; clear n0_ n1_ n2_ n3_ n4_ n5_ n6_; clear hb hbox hg; have hnb20 := NB540_541.out; have hnc20 := NB541_540.out; have hcz21_0 : w19.cell? ⟨gb540, 0, none⟩ = some (.int .i64 a0_0) := (blk_cell BK540.out 0).trans rfl; have hcz21_1 : w19.cell? ⟨gb540, 1, none⟩ = some (.slice A0_1 l0_1.length c0_1) := (blk_cell BK540.out 1).trans rfl; have hfz21_0 := blk_frozen BK540.out 0; have hfz21_1 := blk_frozen BK540.out 1) | ((with_reducible refine gate_callee (f := 29) rfl ?_); refine goesL_ (some 29) rfl rfl Tryd.func29 (by kernel_rfl) rfl #[.agg #[.int .i64 a0_0, .slice A0_1 l0_1.length c0_1]] rfl (by (try simp only [List.map_toArray, List.map_cons, List.map_nil]); first | done | rfl | (simp only [List.length_drop, List.length_take]; rfl)) ?_; (with_reducible refine (skewbaldlaw07_sound.calls k a0_0 _ _ l0_1 true _ ?side1 ?side2 A4.out).mono ?_); (case side1 => repeat (first | exact (Kd.C_below HR0_1.out HB.out) | (with_reducible refine Kd.C_alloc ?_ _) | (with_reducible refine Kd.C_drewN ?_ _) | (with_reducible refine Kd.C_drew ?_))); (case side2 => exact HC0_1.out); rintro e w22 ⟨rfl, hb⟩; refine ⟨_, rfl, ?_⟩; have n0_ := Aside0.mk (blk_below (g := gb540) (o := .cells #[.int .i64 a0_0, .slice A0_1 l0_1.length c0_1] 24 (0, 0)) (by (with_reducible repeat (first | refine blk_drewN ?_ _ | refine blk_drew ?_ | refine blk_alloc ?_ _)); exact BK540.out) hb); have n1_ := Aside0.mk (blk_below (g := gb541) (o := .cells #[.int .i64 a1_0, .int .i64 a1_1, .int .i64 a1_2] 49 (0, 0)) (by (with_reducible repeat (first | refine blk_drewN ?_ _ | refine blk_drew ?_ | refine blk_alloc ?_ _)); exact BK541.out) hb); have n2_ := Aside0.mk (below_step (by repeat (first | (with_reducible first | exact HB.out | apply below_alloc | apply pw_below_drewN | apply below_drew1 | refine below_set ?_ GE540.out | refine below_set ?_ GE541.out) | exact HB.out)) hb); clear BK540; clear BK541; clear HB; have BK540 := n0_; have BK541 := n1_; have HB := n2_; clear n0_ n1_ n2_; (try clear hb); (try clear hb2); (try clear hk); (try clear hi)))
      have n0_ := Aside0.mk (blk_drew BK540.out)
      have n1_ := Aside0.mk (blk_drew BK541.out)
      have n2_ := Aside0.mk (below_drew1 HB.out)
      clear BK540
      clear BK541
      clear HB
      have BK540 := n0_
      have BK541 := n1_
      have HB := n2_
      clear n0_ n1_ n2_
      refine start_ (n := 13) (S := fun w' => w'.cell? ⟨gb541, 0, none⟩ = some (.int .i64 a1_0) ∧ w'.cell? ⟨gb541, 1, none⟩ = some (.int .i64 a1_1) ∧ w'.cell? ⟨gb541, 2, none⟩ = some (.int .i64 a1_2) ∧ w'.cell? ⟨gb540, 0, none⟩ = some (.int .i64 a0_0) ∧ w'.cell? ⟨gb540, 1, none⟩ = some (.slice A0_1 l0_1.length c0_1)) (ds := []) #[false, false, false, false, false, false, false, false, false, false, false, false, false] (by kernel_rfl) rfl rfl ⟨(blk_cell BK541.out 0).trans rfl, (blk_cell BK541.out 1).trans rfl, (blk_cell BK541.out 2).trans rfl, (blk_cell BK540.out 0).trans rfl, (blk_cell BK540.out 1).trans rfl⟩ (fun hHeld => ?_); refine with_tabW skewbaldlaw07_DappleMore.tab3 skewbaldlaw07_DappleMore.bits3 (fun HT_ HW_ => ?_)
      generalize w22.drew = w23 at BK540 BK541 HB hHeld ⊢
      refine pure_ (i := 0) (N := some 32) (v := ?_) (a' := ?_) #[true, false, false, false, false, false, false, false, false, false, false, false, false] rfl rfl (any_of HT_.out (by kernel_rfl)) (fun _ _ _ h => h) (Or.inl ⟨by rfl, ?_⟩) ?_ ?_
      rotate_left
      ·intro w'
       go_simp
       with_reducible rfl
      rotate_left
      ·simp only [Act.put, List.setIfInBounds_toArray, List.set_cons_zero, List.set_cons_succ, i64_w, i32_w]
       rfl
      refine pure_ (i := 2) (N := some 34) (v := ?_) (a' := ?_) #[true, false, true, false, false, false, false, false, false, false, false, false, false] rfl rfl (any_of HT_.out (by kernel_rfl)) (fun _ _ _ h => h) (Or.inl ⟨by rfl, ?_⟩) ?_ ?_
      rotate_left
      ·intro w'
       go_simp
       with_reducible rfl
      rotate_left
      ·simp only [Act.put, List.setIfInBounds_toArray, List.set_cons_zero, List.set_cons_succ, i64_w, i32_w]
       rfl
      refine pure_ (i := 6) (N := some 38) (v := ?_) (a' := ?_) #[true, false, true, false, false, false, true, false, false, false, false, false, false] rfl rfl (any_of HT_.out (by kernel_rfl)) (fun _ _ _ h => h) (Or.inl ⟨by rfl, ?_⟩) ?_ ?_
      rotate_left
      ·intro w'
       go_simp
       with_reducible rfl
      rotate_left
      ·simp only [Act.put, List.setIfInBounds_toArray, List.set_cons_zero, List.set_cons_succ, i64_w, i32_w]
       rfl
      refine pure_ (i := 8) (N := some 40) (v := ?_) (a' := ?_) #[true, false, true, false, false, false, true, false, true, false, false, false, false] rfl rfl (any_of HT_.out (by kernel_rfl)) (fun _ _ _ h => h) (Or.inl ⟨by rfl, ?_⟩) ?_ ?_
      rotate_left
      ·intro w'
       go_simp
       with_reducible rfl
      rotate_left
      ·simp only [Act.put, List.setIfInBounds_toArray, List.set_cons_zero, List.set_cons_succ, i64_w, i32_w]
       rfl
      refine take_ (i := 1) (N := some 33) (v := ?_) (a' := ?_) #[true, true, true, false, false, false, true, false, true, false, false, false, false] rfl rfl (take_ofW HT_.out HW_.out (by kernel_rfl)) (fun _ _ _ h => h) (Or.inl ⟨by rfl, ?_⟩) hHeld ?_ ?_
      rotate_left
      ·rintro w' ⟨s0, s1, s2, s3, s4⟩
       go_simp
       with_reducible rfl
      rotate_left
      ·simp only [Act.put, List.setIfInBounds_toArray, List.set_cons_zero, List.set_cons_succ, i64_w, i32_w]
       rfl
      refine take_ (i := 3) (N := some 35) (v := ?_) (a' := ?_) #[true, true, true, true, false, false, true, false, true, false, false, false, false] rfl rfl (take_ofW HT_.out HW_.out (by kernel_rfl)) (fun _ _ _ h => h) (Or.inl ⟨by rfl, ?_⟩) hHeld ?_ ?_
      rotate_left
      ·rintro w' ⟨s0, s1, s2, s3, s4⟩
       go_simp
       with_reducible rfl
      rotate_left
      ·simp only [Act.put, List.setIfInBounds_toArray, List.set_cons_zero, List.set_cons_succ, i64_w, i32_w]
       rfl
      refine pure_ (i := 4) (N := some 36) (v := ?_) (a' := ?_) #[true, true, true, true, true, false, true, false, true, false, false, false, false] rfl rfl (any_of HT_.out (by kernel_rfl)) (fun _ _ _ h => h) (Or.inl ⟨by rfl, ?_⟩) ?_ ?_
      rotate_left
      ·intro w'
       go_simp
       with_reducible rfl
      rotate_left
      ·simp only [Act.put, List.setIfInBounds_toArray, List.set_cons_zero, List.set_cons_succ, i64_w, i32_w]
       rfl
      refine take_ (i := 7) (N := some 39) (v := ?_) (a' := ?_) #[true, true, true, true, true, false, true, true, true, false, false, false, false] rfl rfl (take_ofW HT_.out HW_.out (by kernel_rfl)) (fun _ _ _ h => h) (Or.inl ⟨by rfl, ?_⟩) hHeld ?_ ?_
      rotate_left
      ·rintro w' ⟨s0, s1, s2, s3, s4⟩
       go_simp
       with_reducible rfl
      rotate_left
      ·simp only [Act.put, List.setIfInBounds_toArray, List.set_cons_zero, List.set_cons_succ, i64_w, i32_w]
       rfl
      refine take_ (i := 9) (N := some 41) (v := ?_) (a' := ?_) #[true, true, true, true, true, false, true, true, true, true, false, false, false] rfl rfl (take_ofW HT_.out HW_.out (by kernel_rfl)) (fun _ _ _ h => h) (Or.inl ⟨by rfl, ?_⟩) hHeld ?_ ?_
      rotate_left
      ·rintro w' ⟨s0, s1, s2, s3, s4⟩
       go_simp
       with_reducible rfl
      rotate_left
      ·simp only [Act.put, List.setIfInBounds_toArray, List.set_cons_zero, List.set_cons_succ, i64_w, i32_w]
       rfl
      refine one_ (i := 5) (N := some 37) #[true, true, true, true, true, true, true, true, true, true, false, false, false] rfl rfl (one_of HT_.out (by kernel_rfl)) (by decide) (fun K hK => ?_)
      refine goes_ Tryd.func37 (by kernel_rfl) rfl #[.int .i64 a1_0, .int .i64 (l0_1.length : Int)] (by rfl) rfl rfl (by (try simp only [List.map_toArray, List.map_cons, List.map_nil]); first | done | rfl | (simp only [List.length_drop, List.length_take]; rfl)) ?_
      with_reducible refine (skewbaldref00_Round.calls a1_0 (l0_1.length : Int) t544 _ A6.out).mono ?_
      rintro e w' ⟨rfl, ⟨nd, rfl⟩⟩
      refine ⟨_, rfl, ?_⟩
      refine hK.out _ _ ⟨(blk_cell BK541.out 0).trans rfl, (blk_cell BK541.out 1).trans rfl, (blk_cell BK541.out 2).trans rfl, (blk_cell BK540.out 0).trans rfl, (blk_cell BK540.out 1).trans rfl⟩ (fun hHeld => ?_)
      clear hK K
      refine norm_ (a' := ?_) ?_ ?_
      rotate_left
      ·show Act.put _ (some 37) _ = _
       simp only [Act.put, List.setIfInBounds_toArray, List.set_cons_zero, List.set_cons_succ, i64_w, i32_w]
       rfl
      refine one_ (i := 10) (N := some 42) #[true, true, true, true, true, true, true, true, true, true, true, false, false] rfl rfl (one_of HT_.out (by kernel_rfl)) (by decide) (fun K hK => ?_)
      refine goes_ Tryd.func37 (by kernel_rfl) rfl #[.int .i64 a1_1, .int .i64 a0_0] (by rfl) rfl rfl (by (try simp only [List.map_toArray, List.map_cons, List.map_nil]); first | done | rfl | (simp only [List.length_drop, List.length_take]; rfl)) ?_
      with_reducible refine (skewbaldref00_Round.calls a1_1 a0_0 t545 _ A7.out).mono ?_
      rintro e w' ⟨rfl, ⟨nd, rfl⟩⟩
      refine ⟨_, rfl, ?_⟩
      refine hK.out _ _ ⟨(blk_cell BK541.out 0).trans rfl, (blk_cell BK541.out 1).trans rfl, (blk_cell BK541.out 2).trans rfl, (blk_cell BK540.out 0).trans rfl, (blk_cell BK540.out 1).trans rfl⟩ (fun hHeld => ?_)
      clear hK K
      refine norm_ (a' := ?_) ?_ ?_
      rotate_left
      ·show Act.put _ (some 42) _ = _
       simp only [Act.put, List.setIfInBounds_toArray, List.set_cons_zero, List.set_cons_succ, i64_w, i32_w]
       rfl
      refine pure_ (i := 11) (N := some 7) (v := ?_) (a' := ?_) #[true, true, true, true, true, true, true, true, true, true, true, true, false] rfl rfl (any_of HT_.out (by kernel_rfl)) (fun _ _ _ h => h) (Or.inl ⟨by rfl, ?_⟩) ?_ ?_
      rotate_left
      ·intro w'
       go_simp
       with_reducible rfl
      rotate_left
      ·simp only [Act.put, List.setIfInBounds_toArray, List.set_cons_zero, List.set_cons_succ, i64_w, i32_w]
       rfl
      refine pure_ (i := 12) (N := some 8) (v := ?_) (a' := ?_) #[true, true, true, true, true, true, true, true, true, true, true, true, true] rfl rfl (any_of HT_.out (by kernel_rfl)) (fun _ _ _ h => h) (Or.inl ⟨by rfl, ?_⟩) ?_ ?_
      rotate_left
      ·intro w'
       go_simp
       with_reducible rfl
      rotate_left
      ·simp only [Act.put, List.setIfInBounds_toArray, List.set_cons_zero, List.set_cons_succ, i64_w, i32_w]
       rfl
      refine done_ (done_of HT_.out (by kernel_rfl)) ?_
      try go_wp2
      (try simp only [World.drewN_drewN]); (try (rw [drewN_self w23]; generalize hq_ : World.drewN w23 _ = w23; have n0_ : Aside0 (w23.heap[gb540]? = some (.cells #[.int .i64 a0_0, .slice A0_1 l0_1.length c0_1] 24 (0, 0))) := ⟨by rw [← hq_]; exact (by (with_reducible repeat (first | refine blk_drewN ?_ _ | refine blk_drew ?_ | refine blk_alloc ?_ _)); exact BK540.out)⟩; have n1_ : Aside0 (w23.heap[gb541]? = some (.cells #[.int .i64 a1_0, .int .i64 a1_1, .int .i64 a1_2] 49 (0, 0))) := ⟨by rw [← hq_]; exact (by (with_reducible repeat (first | refine blk_drewN ?_ _ | refine blk_drew ?_ | refine blk_alloc ?_ _)); exact BK541.out)⟩; have n2_ : Aside0 (Below w.heap.size w w23) := ⟨by rw [← hq_]; exact (by repeat (first | (with_reducible first | exact HB.out | apply below_alloc | apply pw_below_drewN | apply below_drew1 | refine below_set ?_ GE540.out | refine below_set ?_ GE541.out) | exact HB.out))⟩; clear BK540 BK541 HB hq_; have BK540 := n0_; have BK541 := n1_; have HB := n2_; clear n0_ n1_ n2_))
      have n0_ := Aside0.mk (blk_drew BK540.out)
      have n1_ := Aside0.mk (blk_drew BK541.out)
      have n2_ := Aside0.mk (below_drew1 HB.out)
      clear BK540
      clear BK541
      clear HB
      have BK540 := n0_
      have BK541 := n1_
      have HB := n2_
      clear n0_ n1_ n2_
      have p546 : 0 ≤ (t544 : Int) := of_decide_eq_true (by first | (with_reducible assumption) | assumption)
      have q546 : t544 < (l0_1.length : Int) := of_decide_eq_true (by first | (with_reducible assumption) | assumption)
      obtain ⟨ad546, A546_0, c546_0, e546, hx546_0, hl546_0, hi546_0⟩ := at_L1 HR0_1.out t544 p546 q546
      have hw546_0 := hx546_0
      cases e546
      replace hx546_0 := (HB.out.cell (World.block_lt_of_cell? w _ hx546_0)).trans hx546_0
      have HR546_0 := Aside0.mk hi546_0
      have HC546_0 := Aside0.mk hl546_0
      clear hi546_0 hl546_0
      replace p546 := eq_true p546
      replace q546 := eq_true q546
      have p547 : 0 ≤ (t545 : Int) := of_decide_eq_true (by first | (with_reducible assumption) | assumption)
      have q547 : t545 < ((rd_L1 l0_1 t544).length : Int) := of_decide_eq_true (by first | (with_reducible assumption) | assumption)
      obtain ⟨ad547, e547, hx547_0⟩ := Kd.at_int HR546_0.out t545 p547 q547
      have hw547_0 := hx547_0
      cases e547
      replace hx547_0 := (HB.out.cell (World.block_lt_of_cell? w _ hx547_0)).trans hx547_0
      replace p547 := eq_true p547
      replace q547 := eq_true q547
      refine start_ (n := 18) (S := fun w' => w'.cell? ⟨gb540, 0, none⟩ = some (.int .i64 a0_0) ∧ w'.cell? ⟨gb540, 1, none⟩ = some (.slice (some ad546) l0_1.length c0_1) ∧ w'.cell? ⟨gb541, 0, none⟩ = some (.int .i64 a1_0) ∧ w'.cell? ⟨gb541, 1, none⟩ = some (.int .i64 a1_1) ∧ w'.cell? ⟨gb541, 2, none⟩ = some (.int .i64 a1_2) ∧ w'.cell? (ad546.add (t544).toNat) = some (.slice (some ad547) (rd_L1 l0_1 t544).length c546_0) ∧ w'.cell? (ad547.add (t545).toNat) = some (.int .i64 (rd (rd_L1 l0_1 t544) t545))) (ds := []) #[false, false, false, false, false, false, false, false, false, false, false, false, false, false, false, false, false, false] (by kernel_rfl) rfl rfl ⟨(blk_cell BK540.out 0).trans rfl, (blk_cell BK540.out 1).trans rfl, (blk_cell BK541.out 0).trans rfl, (blk_cell BK541.out 1).trans rfl, (blk_cell BK541.out 2).trans rfl, ((HB.out.cell (World.block_lt_of_cell? w _ hw546_0)).trans hw546_0), ((HB.out.cell (World.block_lt_of_cell? w _ hw547_0)).trans hw547_0)⟩ (fun hHeld => ?_); refine with_tabW skewbaldlaw07_DappleMore.tab4 skewbaldlaw07_DappleMore.bits4 (fun HT_ HW_ => ?_)
      generalize w23.drew = w24 at BK540 BK541 HB HR546_0 hx546_0 hx547_0 hHeld ⊢
      refine pure_ (i := 1) (N := some 44) (v := ?_) (a' := ?_) #[false, true, false, false, false, false, false, false, false, false, false, false, false, false, false, false, false, false] rfl rfl (any_of HT_.out (by kernel_rfl)) (fun _ _ _ h => h) (Or.inl ⟨by rfl, ?_⟩) ?_ ?_
      rotate_left
      ·intro w'
       go_simp
       with_reducible rfl
      rotate_left
      ·simp only [Act.put, List.setIfInBounds_toArray, List.set_cons_zero, List.set_cons_succ, i64_w, i32_w]
       rfl
      refine pure_ (i := 2) (N := some 45) (v := ?_) (a' := ?_) #[false, true, true, false, false, false, false, false, false, false, false, false, false, false, false, false, false, false] rfl rfl (any_of HT_.out (by kernel_rfl)) (fun _ _ _ h => h) (Or.inl ⟨by rfl, ?_⟩) ?_ ?_
      rotate_left
      ·intro w'
       go_simp
       with_reducible rfl
      rotate_left
      ·simp only [Act.put, List.setIfInBounds_toArray, List.set_cons_zero, List.set_cons_succ, i64_w, i32_w]
       rfl
      refine pure_ (i := 3) (N := some 46) (v := ?_) (a' := ?_) #[false, true, true, true, false, false, false, false, false, false, false, false, false, false, false, false, false, false] rfl rfl (any_of HT_.out (by kernel_rfl)) (fun _ _ _ h => h) (Or.inl ⟨by rfl, ?_⟩) ?_ ?_
      rotate_left
      ·intro w'
       go_simp
       with_reducible rfl
      rotate_left
      ·simp only [Act.put, List.setIfInBounds_toArray, List.set_cons_zero, List.set_cons_succ, i64_w, i32_w]
       rfl
      refine pure_ (i := 5) (N := some 48) (v := ?_) (a' := ?_) #[false, true, true, true, false, true, false, false, false, false, false, false, false, false, false, false, false, false] rfl rfl (any_of HT_.out (by kernel_rfl)) (fun _ _ _ h => h) (Or.inl ⟨by rfl, ?_⟩) ?_ ?_
      rotate_left
      ·intro w'
       go_simp
       with_reducible rfl
      rotate_left
      ·simp only [Act.put, List.setIfInBounds_toArray, List.set_cons_zero, List.set_cons_succ, i64_w, i32_w]
       rfl
      refine pure_ (i := 8) (N := some 51) (v := ?_) (a' := ?_) #[false, true, true, true, false, true, false, false, true, false, false, false, false, false, false, false, false, false] rfl rfl (any_of HT_.out (by kernel_rfl)) (fun _ _ _ h => h) (Or.inl ⟨by rfl, ?_⟩) ?_ ?_
      rotate_left
      ·intro w'
       go_simp
       with_reducible rfl
      rotate_left
      ·simp only [Act.put, List.setIfInBounds_toArray, List.set_cons_zero, List.set_cons_succ, i64_w, i32_w]
       rfl
      refine pure_ (i := 12) (N := some 55) (v := ?_) (a' := ?_) #[false, true, true, true, false, true, false, false, true, false, false, false, true, false, false, false, false, false] rfl rfl (any_of HT_.out (by kernel_rfl)) (fun _ _ _ h => h) (Or.inl ⟨by rfl, ?_⟩) ?_ ?_
      rotate_left
      ·intro w'
       go_simp
       with_reducible rfl
      rotate_left
      ·simp only [Act.put, List.setIfInBounds_toArray, List.set_cons_zero, List.set_cons_succ, i64_w, i32_w]
       rfl
      refine take_ (i := 0) (N := some 43) (v := ?_) (a' := ?_) #[true, true, true, true, false, true, false, false, true, false, false, false, true, false, false, false, false, false] rfl rfl (take_ofW HT_.out HW_.out (by kernel_rfl)) (fun _ _ _ h => h) (Or.inl ⟨by rfl, ?_⟩) hHeld ?_ ?_
      rotate_left
      ·rintro w' ⟨s0, s1, s2, s3, s4, s5, s6⟩
       go_simp
       with_reducible rfl
      rotate_left
      ·simp only [Act.put, List.setIfInBounds_toArray, List.set_cons_zero, List.set_cons_succ, i64_w, i32_w]
       rfl
      refine take_ (i := 4) (N := some 47) (v := ?_) (a' := ?_) #[true, true, true, true, true, true, false, false, true, false, false, false, true, false, false, false, false, false] rfl rfl (take_ofW HT_.out HW_.out (by kernel_rfl)) (fun _ _ _ h => h) (Or.inl ⟨by rfl, ?_⟩) hHeld ?_ ?_
      rotate_left
      ·rintro w' ⟨s0, s1, s2, s3, s4, s5, s6⟩
       go_simp
       with_reducible rfl
      rotate_left
      ·simp only [Act.put, List.setIfInBounds_toArray, List.set_cons_zero, List.set_cons_succ, i64_w, i32_w]
       rfl
      refine pure_ (i := 6) (N := some 49) (v := ?_) (a' := ?_) #[true, true, true, true, true, true, true, false, true, false, false, false, true, false, false, false, false, false] rfl rfl (any_of HT_.out (by kernel_rfl)) (fun _ _ _ h => h) (Or.inl ⟨by rfl, ?_⟩) ?_ ?_
      rotate_left
      ·intro w'
       go_simp
       with_reducible rfl
      rotate_left
      ·simp only [Act.put, List.setIfInBounds_toArray, List.set_cons_zero, List.set_cons_succ, i64_w, i32_w]
       rfl
      refine take_ (i := 7) (N := some 50) (v := ?_) (a' := ?_) #[true, true, true, true, true, true, true, true, true, false, false, false, true, false, false, false, false, false] rfl rfl (take_ofW HT_.out HW_.out (by kernel_rfl)) (fun _ _ _ h => h) (Or.inl ⟨by rfl, ?_⟩) hHeld ?_ ?_
      rotate_left
      ·rintro w' ⟨s0, s1, s2, s3, s4, s5, s6⟩
       go_simp
       with_reducible rfl
      rotate_left
      ·simp only [Act.put, List.setIfInBounds_toArray, List.set_cons_zero, List.set_cons_succ, i64_w, i32_w]
       rfl
      refine pure_ (i := 9) (N := some 52) (v := ?_) (a' := ?_) #[true, true, true, true, true, true, true, true, true, true, false, false, true, false, false, false, false, false] rfl rfl (any_of HT_.out (by kernel_rfl)) (fun _ _ _ h => h) (Or.inl ⟨by rfl, ?_⟩) ?_ ?_
      rotate_left
      ·intro w'
       go_simp
       with_reducible rfl
      rotate_left
      ·simp only [Act.put, List.setIfInBounds_toArray, List.set_cons_zero, List.set_cons_succ, i64_w, i32_w]
       rfl
      refine take_ (i := 10) (N := some 53) (v := ?_) (a' := ?_) #[true, true, true, true, true, true, true, true, true, true, true, false, true, false, false, false, false, false] rfl rfl (take_ofW HT_.out HW_.out (by kernel_rfl)) (fun _ _ _ h => h) (Or.inl ⟨by rfl, ?_⟩) hHeld ?_ ?_
      rotate_left
      ·rintro w' ⟨s0, s1, s2, s3, s4, s5, s6⟩
       go_simp
       with_reducible rfl
      rotate_left
      ·simp only [Act.put, List.setIfInBounds_toArray, List.set_cons_zero, List.set_cons_succ, i64_w, i32_w]
       rfl
      refine take_ (i := 13) (N := some 56) (v := ?_) (a' := ?_) #[true, true, true, true, true, true, true, true, true, true, true, false, true, true, false, false, false, false] rfl rfl (take_ofW HT_.out HW_.out (by kernel_rfl)) (fun _ _ _ h => h) (Or.inl ⟨by rfl, ?_⟩) hHeld ?_ ?_
      rotate_left
      ·rintro w' ⟨s0, s1, s2, s3, s4, s5, s6⟩
       go_simp
       with_reducible rfl
      rotate_left
      ·simp only [Act.put, List.setIfInBounds_toArray, List.set_cons_zero, List.set_cons_succ, i64_w, i32_w]
       rfl
      refine join_ (σ := Value × Value × Nat) 1 #[true, true, true, true, true, true, true, true, true, true, true, true, true, true, true, true, true, false] (fun s_ => [(54, s_.1), (57, .int .i64 t551), (58, .agg #[.int .i64 t552, s_.2.1]), (9, .pointer (some ⟨s_.2.2, 0, none⟩))]) (fun s_ w' => (w'.cell? ⟨gb540, 0, none⟩ = some (.int .i64 a0_0) ∧ w'.cell? ⟨gb540, 1, none⟩ = some (.slice (some ad546) l0_1.length c0_1) ∧ w'.cell? ⟨gb541, 0, none⟩ = some (.int .i64 a1_0) ∧ w'.cell? ⟨gb541, 1, none⟩ = some (.int .i64 a1_1) ∧ w'.cell? ⟨gb541, 2, none⟩ = some (.int .i64 a1_2) ∧ w'.cell? (ad546.add (t544).toNat) = some (.slice (some ad547) (rd_L1 l0_1 t544).length c546_0) ∧ w'.cell? (ad547.add (t545).toNat) = some (.int .i64 (rd (rd_L1 l0_1 t544) t545))) ∧ (Kd.R (Kd.int .i64) 3 w' w.heap.size (fun _ => True) s_.1 t548) ∧ (Kd.V (Kd.slice 3 (Kd.int .i64)) 26 w' w.heap.size (fun k_ => some k_ ≠ (s_.1 : Value).ownBlock ∧ k_ ≠ gb540 ∧ k_ ≠ gb541 ∧ k_ ≠ s_.2.2) s_.2.1 t553) ∧ (w'.heap[gb540]? = some (.cells #[.int .i64 a0_0, .slice (some ad546) l0_1.length c0_1] 24 (0, 0))) ∧ (w'.heap[gb541]? = some (.cells #[.int .i64 a1_0, .int .i64 a1_1, .int .i64 a1_2] 49 (0, 0))) ∧ (w'.heap[s_.2.2]? = some (.cells #[.int .i64 0, .slice none 0 0] 24 (0, 0))) ∧ (w.heap.size ≤ s_.2.2) ∧ (w.heap.size ≤ s_.2.2) ∧ (gb540 ≠ s_.2.2) ∧ (s_.2.2 ≠ gb540) ∧ (gb541 ≠ s_.2.2) ∧ (s_.2.2 ≠ gb541) ∧ (Below w.heap.size w w')) ?_ ?_
      rotate_left
      ·intro hCont
       refine two_ (i := 11) (j := 16) (Ni := some 54) (Nj := some 9) #[true, true, true, true, true, true, true, true, true, true, true, true, true, true, false, false, false, false] #[true, true, true, true, true, true, true, true, true, true, true, false, true, true, false, false, true, false] rfl rfl rfl rfl (two_of HT_.out (by kernel_rfl)) (by decide) (by decide) (fun K hK => ?_) (fun K hK => ?_)
       ·skip
        refine goes_ Tryd.func38 (by kernel_rfl) rfl #[.int .i64 (rd (rd_L1 l0_1 t544) t545), .int .i64 4] (by rfl) rfl rfl (by (try simp only [List.map_toArray, List.map_cons, List.map_nil]); first | done | rfl | (simp only [List.length_drop, List.length_take]; rfl)) ?_
        with_reducible refine (skewbaldref00_List.calls k (rd (rd_L1 l0_1 t544) t545) 4 t548 _ A12.out).mono ?_
        rintro e w25 ⟨v549, rfl, ho0, hb⟩
        refine ⟨_, rfl, ?_⟩
        have n0_ := Aside0.mk (Kd.R_lower ho0 (below_size (by repeat (first | (with_reducible first | exact HB.out | apply below_alloc | apply pw_below_drewN | apply below_drew1 | refine below_set ?_ GE540.out | refine below_set ?_ GE541.out) | exact HB.out))))
        have n1_ := Aside0.mk (blk_below (g := gb540) (o := .cells #[.int .i64 a0_0, .slice (some ad546) l0_1.length c0_1] 24 (0, 0)) (by (with_reducible repeat (first | refine blk_drewN ?_ _ | refine blk_drew ?_ | refine blk_alloc ?_ _)); exact BK540.out) hb)
        have n2_ := Aside0.mk (blk_below (g := gb541) (o := .cells #[.int .i64 a1_0, .int .i64 a1_1, .int .i64 a1_2] 49 (0, 0)) (by (with_reducible repeat (first | refine blk_drewN ?_ _ | refine blk_drew ?_ | refine blk_alloc ?_ _)); exact BK541.out) hb)
        have n3_ := Aside0.mk (below_step (by repeat (first | (with_reducible first | exact HB.out | apply below_alloc | apply pw_below_drewN | apply below_drew1 | refine below_set ?_ GE540.out | refine below_set ?_ GE541.out) | exact HB.out)) hb)
        clear BK540
        clear BK541
        clear HB
        have HO550 := n0_
        have BK540 := n1_
        have BK541 := n2_
        have HB := n3_
        clear n0_ n1_ n2_ n3_
        (try clear hb)
        (try clear hb2)
        (try clear hk)
        (try clear hi)
        (try clear ho0)
        obtain ⟨Ao26, co26, eo26⟩ := Kd.R_slice HO550.out
        (first | subst eo26 | (injection eo26 with f1_ f2_ f3_; have f4_ := f1_.symm; have f5_ := f3_.symm; clear f1_ f2_ f3_; subst f4_; subst f5_))
        refine hK.out _ _ ⟨(blk_cell BK540.out 0).trans rfl, (blk_cell BK540.out 1).trans rfl, (blk_cell BK541.out 0).trans rfl, (blk_cell BK541.out 1).trans rfl, (blk_cell BK541.out 2).trans rfl, ((HB.out.cell (World.block_lt_of_cell? w _ hw546_0)).trans hw546_0), ((HB.out.cell (World.block_lt_of_cell? w _ hw547_0)).trans hw547_0)⟩ (fun hHeld => ?_)
        clear hK K
        refine norm_ (a' := ?_) ?_ ?_
        rotate_left
        ·show Act.put _ (some 54) _ = _
         simp only [Act.put, List.setIfInBounds_toArray, List.set_cons_zero, List.set_cons_succ, i64_w, i32_w]
         rfl
        refine two_ (i := 14) (j := 16) (Ni := some 57) (Nj := some 9) #[true, true, true, true, true, true, true, true, true, true, true, true, true, true, true, false, false, false] #[true, true, true, true, true, true, true, true, true, true, true, true, true, true, false, false, true, false] rfl rfl rfl rfl (two_of HT_.out (by kernel_rfl)) (by decide) (by decide) (fun K hK => ?_) (fun K hK => ?_)
        ·skip
         refine goes_ Tryd.func50 (by kernel_rfl) rfl #[.slice Ao26 t548.length co26, .int .i64 a1_2] (by rfl) rfl rfl (by (try simp only [List.map_toArray, List.map_cons, List.map_nil]); first | done | rfl | (simp only [List.length_drop, List.length_take]; rfl)) ?_
         with_reducible refine (skewbaldref00_Take.calls _ _ t548 a1_2 t551 _ ?side1 ?side2 A13.out).mono ?_
         (case side1 => repeat (first | exact (Kd.R_reads' HO550.out).2.2 | (with_reducible refine Kd.C_alloc ?_ _) | (with_reducible refine Kd.C_drewN ?_ _) | (with_reducible refine Kd.C_drew ?_)))
         (case side2 => exact (Kd.R_reads' HO550.out).2.1)
         rintro e w' ⟨rfl, ⟨nd, rfl⟩⟩
         refine ⟨_, rfl, ?_⟩
         refine hK.out _ _ ⟨(blk_cell BK540.out 0).trans rfl, (blk_cell BK540.out 1).trans rfl, (blk_cell BK541.out 0).trans rfl, (blk_cell BK541.out 1).trans rfl, (blk_cell BK541.out 2).trans rfl, ((HB.out.cell (World.block_lt_of_cell? w _ hw546_0)).trans hw546_0), ((HB.out.cell (World.block_lt_of_cell? w _ hw547_0)).trans hw547_0)⟩ (fun hHeld => ?_)
         clear hK K
         refine norm_ (a' := ?_) ?_ ?_
         rotate_left
         ·show Act.put _ (some 57) _ = _
          simp only [Act.put, List.setIfInBounds_toArray, List.set_cons_zero, List.set_cons_succ, i64_w, i32_w]
          rfl
         refine two_ (i := 15) (j := 16) (Ni := some 58) (Nj := some 9) #[true, true, true, true, true, true, true, true, true, true, true, true, true, true, true, true, false, false] #[true, true, true, true, true, true, true, true, true, true, true, true, true, true, true, false, true, false] rfl rfl rfl rfl (two_of HT_.out (by kernel_rfl)) (by decide) (by decide) (fun K hK => ?_) (fun K hK => ?_)
         ·skip
          refine goes_ Tryd.func49 (by kernel_rfl) rfl #[.agg #[.int .i64 a0_0, .slice (some ad546) l0_1.length c0_1], .int .i64 t544, .int .i64 t545, .int .i64 t551] (by rfl) rfl rfl (by (try simp only [List.map_toArray, List.map_cons, List.map_nil]); first | done | rfl | (simp only [List.length_drop, List.length_take]; rfl)) ?_
          with_reducible refine (skewbaldlaw07_known.calls a0_0 (fun k_ => k_ < w.heap.size) _ _ l0_1 t544 t545 t551 t552 t553 _ ?side1 A14.out).mono ?_
          (case side1 => exact Kd.V_mk HC0_1.out (Kd.F_below (Kd.C_F (Kd.heap_slice 3 (Kd.heap_int .i64)) HR0_1.out) (by repeat (first | (with_reducible first | exact HB.out | apply below_alloc | apply pw_below_drewN | apply below_drew1 | refine below_set ?_ GE540.out | refine below_set ?_ GE541.out) | exact HB.out))))
          rintro e w27 ⟨v554, rfl, ho0, hb⟩
          refine ⟨_, rfl, ?_⟩
          have n0_ := Aside0.mk (Kd.R_below (by (with_reducible repeat (first | apply Kd.R_alloc | apply Kd.R_drewN | apply Kd.R_drew)); exact HO550.out) hb)
          have n1_ := Aside0.mk (Kd.V_lower (Kd.V_mono (ok' := fun k_ => some k_ ≠ (.slice Ao26 t548.length co26 : Value).ownBlock ∧ k_ ≠ gb540 ∧ k_ ≠ gb541) ho0 (fun k_ hk_ => ⟨Or.elim hk_ (fun hs_ => fun e_ => Nat.not_le.2 hs_ (Kd.R_base HO550.out k_ e_.symm)) (fun hn_ => (Kd.fresh' (Kd.R_lt (by (with_reducible repeat (first | apply Kd.R_alloc | apply Kd.R_drewN | apply Kd.R_drew)); exact HO550.out)) k_ hn_)), Or.elim hk_ (fun hs_ => fun e_ => Nat.not_le.2 hs_ (by rw [e_]; exact GW540.out)) (fun hn_ => (Kd.freshB (g := gb540) (o := .cells #[.int .i64 a0_0, .slice (some ad546) l0_1.length c0_1] 24 (0, 0)) (by (with_reducible repeat (first | refine blk_drewN ?_ _ | refine blk_drew ?_ | refine blk_alloc ?_ _)); exact BK540.out) k_ hn_)), Or.elim hk_ (fun hs_ => fun e_ => Nat.not_le.2 hs_ (by rw [e_]; exact GW541.out)) (fun hn_ => (Kd.freshB (g := gb541) (o := .cells #[.int .i64 a1_0, .int .i64 a1_1, .int .i64 a1_2] 49 (0, 0)) (by (with_reducible repeat (first | refine blk_drewN ?_ _ | refine blk_drew ?_ | refine blk_alloc ?_ _)); exact BK541.out) k_ hn_))⟩)) (below_size (by repeat (first | (with_reducible first | exact HB.out | apply below_alloc | apply pw_below_drewN | apply below_drew1 | refine below_set ?_ GE540.out | refine below_set ?_ GE541.out) | exact HB.out))))
          have n2_ := Aside0.mk (blk_below (g := gb540) (o := .cells #[.int .i64 a0_0, .slice (some ad546) l0_1.length c0_1] 24 (0, 0)) (by (with_reducible repeat (first | refine blk_drewN ?_ _ | refine blk_drew ?_ | refine blk_alloc ?_ _)); exact BK540.out) hb)
          have n3_ := Aside0.mk (blk_below (g := gb541) (o := .cells #[.int .i64 a1_0, .int .i64 a1_1, .int .i64 a1_2] 49 (0, 0)) (by (with_reducible repeat (first | refine blk_drewN ?_ _ | refine blk_drew ?_ | refine blk_alloc ?_ _)); exact BK541.out) hb)
          have n4_ := Aside0.mk (below_step (by repeat (first | (with_reducible first | exact HB.out | apply below_alloc | apply pw_below_drewN | apply below_drew1 | refine below_set ?_ GE540.out | refine below_set ?_ GE541.out) | exact HB.out)) hb)
          clear HO550
          clear BK540
          clear BK541
          clear HB
          have HO550 := n0_
          have HO555 := n1_
          have BK540 := n2_
          have BK541 := n3_
          have HB := n4_
          clear n0_ n1_ n2_ n3_ n4_
          (try clear hb)
          (try clear hb2)
          (try clear hk)
          (try clear hi)
          (try clear ho0)
          refine hK.out _ _ ⟨(blk_cell BK540.out 0).trans rfl, (blk_cell BK540.out 1).trans rfl, (blk_cell BK541.out 0).trans rfl, (blk_cell BK541.out 1).trans rfl, (blk_cell BK541.out 2).trans rfl, ((HB.out.cell (World.block_lt_of_cell? w _ hw546_0)).trans hw546_0), ((HB.out.cell (World.block_lt_of_cell? w _ hw547_0)).trans hw547_0)⟩ (fun hHeld => ?_)
          clear hK K
          refine norm_ (a' := ?_) ?_ ?_
          rotate_left
          ·show Act.put _ (some 58) _ = _
           simp only [Act.put, List.setIfInBounds_toArray, List.set_cons_zero, List.set_cons_succ, i64_w, i32_w]
           rfl
          refine one_ (i := 16) (N := some 9) #[true, true, true, true, true, true, true, true, true, true, true, true, true, true, true, true, true, false] rfl rfl (one_of HT_.out (by kernel_rfl)) (by decide) (fun K hK => ?_)
          refine box_step ?hg (N := 9) ?hd (cs := #[.int .i64 0, .slice none 0 0]) (t := 24) ?hr ?_; (case hd => rfl); (case hg => rfl); (case hr => first | (go_simp; done) | (go_simp; rfl))
          intro gb556 hg w28 hbox hb
          have n0_ := Aside0.mk (Kd.R_below (by (with_reducible repeat (first | apply Kd.R_alloc | apply Kd.R_drewN | apply Kd.R_drew)); exact HO550.out) hb)
          have n1_ := Aside0.mk (Kd.V_below (Kd.V_elderB (by (with_reducible repeat (first | apply Kd.V_alloc | apply Kd.V_drewN | apply Kd.V_drew)); exact HO555.out) gb556 (Nat.le_of_eq hg.symm)) hb)
          have n2_ := Aside0.mk (blk_below (g := gb540) (o := .cells #[.int .i64 a0_0, .slice (some ad546) l0_1.length c0_1] 24 (0, 0)) (by (with_reducible repeat (first | refine blk_drewN ?_ _ | refine blk_drew ?_ | refine blk_alloc ?_ _)); exact BK540.out) hb)
          have n3_ := Aside0.mk (blk_below (g := gb541) (o := .cells #[.int .i64 a1_0, .int .i64 a1_1, .int .i64 a1_2] 49 (0, 0)) (by (with_reducible repeat (first | refine blk_drewN ?_ _ | refine blk_drew ?_ | refine blk_alloc ?_ _)); exact BK541.out) hb)
          have n4_ := Aside0.mk (below_step (by repeat (first | (with_reducible first | exact HB.out | apply below_alloc | apply pw_below_drewN | apply below_drew1 | refine below_set ?_ GE540.out | refine below_set ?_ GE541.out) | exact HB.out)) hb)
          have n5_ := Aside0.mk (hbox)
          have n6_ := Aside0.mk ((by rw [hg]; exact (below_size (by repeat (first | (with_reducible first | exact HB.out | apply below_alloc | apply pw_below_drewN | apply below_drew1 | refine below_set ?_ GE540.out | refine below_set ?_ GE541.out) | exact HB.out))) : w.heap.size ≤ gb556))
          have n7_ := Aside0.mk ((by rw [hg]; exact (below_size (by repeat (first | (with_reducible first | exact HB.out | apply below_alloc | apply pw_below_drewN | apply below_drew1 | refine below_set ?_ GE540.out | refine below_set ?_ GE541.out) | exact HB.out))) : w.heap.size ≤ gb556))
          have n8_ := Aside0.mk ((by rw [hg]; exact Nat.ne_of_lt (blk_lt (g := gb540) (o := .cells #[.int .i64 a0_0, .slice (some ad546) l0_1.length c0_1] 24 (0, 0)) (by (with_reducible repeat (first | refine blk_drewN ?_ _ | refine blk_drew ?_ | refine blk_alloc ?_ _)); exact BK540.out)) : gb540 ≠ gb556))
          have n9_ := Aside0.mk ((by rw [hg]; exact Nat.ne_of_gt (blk_lt (g := gb540) (o := .cells #[.int .i64 a0_0, .slice (some ad546) l0_1.length c0_1] 24 (0, 0)) (by (with_reducible repeat (first | refine blk_drewN ?_ _ | refine blk_drew ?_ | refine blk_alloc ?_ _)); exact BK540.out)) : gb556 ≠ gb540))
          have n10_ := Aside0.mk ((by rw [hg]; exact Nat.ne_of_lt (blk_lt (g := gb541) (o := .cells #[.int .i64 a1_0, .int .i64 a1_1, .int .i64 a1_2] 49 (0, 0)) (by (with_reducible repeat (first | refine blk_drewN ?_ _ | refine blk_drew ?_ | refine blk_alloc ?_ _)); exact BK541.out)) : gb541 ≠ gb556))
          have n11_ := Aside0.mk ((by rw [hg]; exact Nat.ne_of_gt (blk_lt (g := gb541) (o := .cells #[.int .i64 a1_0, .int .i64 a1_1, .int .i64 a1_2] 49 (0, 0)) (by (with_reducible repeat (first | refine blk_drewN ?_ _ | refine blk_drew ?_ | refine blk_alloc ?_ _)); exact BK541.out)) : gb556 ≠ gb541))
          clear HO550
          clear HO555
          clear BK540
          clear BK541
          clear HB
          have HO550 := n0_
          have HO555 := n1_
          have BK540 := n2_
          have BK541 := n3_
          have HB := n4_
          have BK556 := n5_
          have GW556 := n6_
          have GE556 := n7_
          have NB540_556 := n8_
          have NB556_540 := n9_
          have NB541_556 := n10_
          have NB556_541 := n11_
          clear n0_ n1_ n2_ n3_ n4_ n5_ n6_ n7_ n8_ n9_ n10_ n11_
          clear hb hbox hg
          refine hK.out _ _ ⟨(blk_cell BK540.out 0).trans rfl, (blk_cell BK540.out 1).trans rfl, (blk_cell BK541.out 0).trans rfl, (blk_cell BK541.out 1).trans rfl, (blk_cell BK541.out 2).trans rfl, ((HB.out.cell (World.block_lt_of_cell? w _ hw546_0)).trans hw546_0), ((HB.out.cell (World.block_lt_of_cell? w _ hw547_0)).trans hw547_0)⟩ (fun hHeld => ?_)
          clear hK K
          refine norm_ (a' := ?_) ?_ ?_
          rotate_left
          ·show Act.put _ (some 9) _ = _
           simp only [Act.put, List.setIfInBounds_toArray, List.set_cons_zero, List.set_cons_succ, i64_w, i32_w]
           rfl
          exact norm_ (by simp only [putAll, Act.put, List.setIfInBounds_toArray, List.set_cons_zero, List.set_cons_succ]) (hCont (.slice Ao26 t548.length co26, v554, gb556) _ ⟨hHeld, (by (with_reducible repeat (first | apply Kd.R_alloc | apply Kd.R_drewN | apply Kd.R_drew)); exact HO550.out), (by (with_reducible repeat (first | apply Kd.V_alloc | apply Kd.V_drewN | apply Kd.V_drew)); exact Kd.V_mono HO555.out (fun _ hk => ⟨hk.1.1, ⟨hk.1.2.1, ⟨hk.1.2.2, hk.2⟩⟩⟩)), (by (with_reducible repeat (first | refine blk_drewN ?_ _ | refine blk_drew ?_ | refine blk_alloc ?_ _)); exact BK540.out), (by (with_reducible repeat (first | refine blk_drewN ?_ _ | refine blk_drew ?_ | refine blk_alloc ?_ _)); exact BK541.out), (by (with_reducible repeat (first | refine blk_drewN ?_ _ | refine blk_drew ?_ | refine blk_alloc ?_ _)); exact BK556.out), GW556.out, GE556.out, NB540_556.out, NB556_540.out, NB541_556.out, NB556_541.out, (by repeat (first | (with_reducible first | exact HB.out | apply below_alloc | apply pw_below_drewN | apply below_drew1 | refine below_set ?_ GE540.out | refine below_set ?_ GE541.out | refine below_set ?_ GE556.out) | exact HB.out))⟩)
         ·skip
          refine box_step ?hg (N := 9) ?hd (cs := #[.int .i64 0, .slice none 0 0]) (t := 24) ?hr ?_; (case hd => rfl); (case hg => rfl); (case hr => first | (go_simp; done) | (go_simp; rfl))
          intro gb556 hg w27 hbox hb
          have n0_ := Aside0.mk (Kd.R_below (by (with_reducible repeat (first | apply Kd.R_alloc | apply Kd.R_drewN | apply Kd.R_drew)); exact HO550.out) hb)
          have n1_ := Aside0.mk (blk_below (g := gb540) (o := .cells #[.int .i64 a0_0, .slice (some ad546) l0_1.length c0_1] 24 (0, 0)) (by (with_reducible repeat (first | refine blk_drewN ?_ _ | refine blk_drew ?_ | refine blk_alloc ?_ _)); exact BK540.out) hb)
          have n2_ := Aside0.mk (blk_below (g := gb541) (o := .cells #[.int .i64 a1_0, .int .i64 a1_1, .int .i64 a1_2] 49 (0, 0)) (by (with_reducible repeat (first | refine blk_drewN ?_ _ | refine blk_drew ?_ | refine blk_alloc ?_ _)); exact BK541.out) hb)
          have n3_ := Aside0.mk (below_step (by repeat (first | (with_reducible first | exact HB.out | apply below_alloc | apply pw_below_drewN | apply below_drew1 | refine below_set ?_ GE540.out | refine below_set ?_ GE541.out) | exact HB.out)) hb)
          have n4_ := Aside0.mk (hbox)
          have n5_ := Aside0.mk ((by rw [hg]; exact (below_size (by repeat (first | (with_reducible first | exact HB.out | apply below_alloc | apply pw_below_drewN | apply below_drew1 | refine below_set ?_ GE540.out | refine below_set ?_ GE541.out) | exact HB.out))) : w.heap.size ≤ gb556))
          have n6_ := Aside0.mk ((by rw [hg]; exact (below_size (by repeat (first | (with_reducible first | exact HB.out | apply below_alloc | apply pw_below_drewN | apply below_drew1 | refine below_set ?_ GE540.out | refine below_set ?_ GE541.out) | exact HB.out))) : w.heap.size ≤ gb556))
          have n7_ := Aside0.mk ((by rw [hg]; exact Nat.ne_of_lt (blk_lt (g := gb540) (o := .cells #[.int .i64 a0_0, .slice (some ad546) l0_1.length c0_1] 24 (0, 0)) (by (with_reducible repeat (first | refine blk_drewN ?_ _ | refine blk_drew ?_ | refine blk_alloc ?_ _)); exact BK540.out)) : gb540 ≠ gb556))
          have n8_ := Aside0.mk ((by rw [hg]; exact Nat.ne_of_gt (blk_lt (g := gb540) (o := .cells #[.int .i64 a0_0, .slice (some ad546) l0_1.length c0_1] 24 (0, 0)) (by (with_reducible repeat (first | refine blk_drewN ?_ _ | refine blk_drew ?_ | refine blk_alloc ?_ _)); exact BK540.out)) : gb556 ≠ gb540))
          have n9_ := Aside0.mk ((by rw [hg]; exact Nat.ne_of_lt (blk_lt (g := gb541) (o := .cells #[.int .i64 a1_0, .int .i64 a1_1, .int .i64 a1_2] 49 (0, 0)) (by (with_reducible repeat (first | refine blk_drewN ?_ _ | refine blk_drew ?_ | refine blk_alloc ?_ _)); exact BK541.out)) : gb541 ≠ gb556))
          have n10_ := Aside0.mk ((by rw [hg]; exact Nat.ne_of_gt (blk_lt (g := gb541) (o := .cells #[.int .i64 a1_0, .int .i64 a1_1, .int .i64 a1_2] 49 (0, 0)) (by (with_reducible repeat (first | refine blk_drewN ?_ _ | refine blk_drew ?_ | refine blk_alloc ?_ _)); exact BK541.out)) : gb556 ≠ gb541))
          clear HO550
          clear BK540
          clear BK541
          clear HB
          have HO550 := n0_
          have BK540 := n1_
          have BK541 := n2_
          have HB := n3_
          have BK556 := n4_
          have GW556 := n5_
          have GE556 := n6_
          have NB540_556 := n7_
          have NB556_540 := n8_
          have NB541_556 := n9_
          have NB556_541 := n10_
          clear n0_ n1_ n2_ n3_ n4_ n5_ n6_ n7_ n8_ n9_ n10_
          clear hb hbox hg
          refine hK.out _ _ ⟨(blk_cell BK540.out 0).trans rfl, (blk_cell BK540.out 1).trans rfl, (blk_cell BK541.out 0).trans rfl, (blk_cell BK541.out 1).trans rfl, (blk_cell BK541.out 2).trans rfl, ((HB.out.cell (World.block_lt_of_cell? w _ hw546_0)).trans hw546_0), ((HB.out.cell (World.block_lt_of_cell? w _ hw547_0)).trans hw547_0)⟩ (fun hHeld => ?_)
          clear hK K
          refine norm_ (a' := ?_) ?_ ?_
          rotate_left
          ·show Act.put _ (some 9) _ = _
           simp only [Act.put, List.setIfInBounds_toArray, List.set_cons_zero, List.set_cons_succ, i64_w, i32_w]
           rfl
          refine one_ (i := 15) (N := some 58) #[true, true, true, true, true, true, true, true, true, true, true, true, true, true, true, true, true, false] rfl rfl (one_of HT_.out (by kernel_rfl)) (by decide) (fun K hK => ?_)
          refine goes_ Tryd.func49 (by kernel_rfl) rfl #[.agg #[.int .i64 a0_0, .slice (some ad546) l0_1.length c0_1], .int .i64 t544, .int .i64 t545, .int .i64 t551] (by rfl) rfl rfl (by (try simp only [List.map_toArray, List.map_cons, List.map_nil]); first | done | rfl | (simp only [List.length_drop, List.length_take]; rfl)) ?_
          with_reducible refine (skewbaldlaw07_known.calls a0_0 (fun k_ => k_ < w.heap.size) _ _ l0_1 t544 t545 t551 t552 t553 _ ?side1 A14.out).mono ?_
          (case side1 => exact Kd.V_mk HC0_1.out (Kd.F_below (Kd.C_F (Kd.heap_slice 3 (Kd.heap_int .i64)) HR0_1.out) (by repeat (first | (with_reducible first | exact HB.out | apply below_alloc | apply pw_below_drewN | apply below_drew1 | refine below_set ?_ GE540.out | refine below_set ?_ GE541.out | refine below_set ?_ GE556.out) | exact HB.out))))
          rintro e w28 ⟨v554, rfl, ho0, hb⟩
          refine ⟨_, rfl, ?_⟩
          have n0_ := Aside0.mk (Kd.R_below (by (with_reducible repeat (first | apply Kd.R_alloc | apply Kd.R_drewN | apply Kd.R_drew)); exact HO550.out) hb)
          have n1_ := Aside0.mk (Kd.V_lower (Kd.V_mono (ok' := fun k_ => some k_ ≠ (.slice Ao26 t548.length co26 : Value).ownBlock ∧ k_ ≠ gb540 ∧ k_ ≠ gb541 ∧ k_ ≠ gb556) ho0 (fun k_ hk_ => ⟨Or.elim hk_ (fun hs_ => fun e_ => Nat.not_le.2 hs_ (Kd.R_base HO550.out k_ e_.symm)) (fun hn_ => (Kd.fresh' (Kd.R_lt (by (with_reducible repeat (first | apply Kd.R_alloc | apply Kd.R_drewN | apply Kd.R_drew)); exact HO550.out)) k_ hn_)), Or.elim hk_ (fun hs_ => fun e_ => Nat.not_le.2 hs_ (by rw [e_]; exact GW540.out)) (fun hn_ => (Kd.freshB (g := gb540) (o := .cells #[.int .i64 a0_0, .slice (some ad546) l0_1.length c0_1] 24 (0, 0)) (by (with_reducible repeat (first | refine blk_drewN ?_ _ | refine blk_drew ?_ | refine blk_alloc ?_ _)); exact BK540.out) k_ hn_)), Or.elim hk_ (fun hs_ => fun e_ => Nat.not_le.2 hs_ (by rw [e_]; exact GW541.out)) (fun hn_ => (Kd.freshB (g := gb541) (o := .cells #[.int .i64 a1_0, .int .i64 a1_1, .int .i64 a1_2] 49 (0, 0)) (by (with_reducible repeat (first | refine blk_drewN ?_ _ | refine blk_drew ?_ | refine blk_alloc ?_ _)); exact BK541.out) k_ hn_)), Or.elim hk_ (fun hs_ => fun e_ => Nat.not_le.2 hs_ (by rw [e_]; exact GW556.out)) (fun hn_ => (Kd.freshB (g := gb556) (o := .cells #[.int .i64 0, .slice none 0 0] 24 (0, 0)) (by (with_reducible repeat (first | refine blk_drewN ?_ _ | refine blk_drew ?_ | refine blk_alloc ?_ _)); exact BK556.out) k_ hn_))⟩)) (below_size (by repeat (first | (with_reducible first | exact HB.out | apply below_alloc | apply pw_below_drewN | apply below_drew1 | refine below_set ?_ GE540.out | refine below_set ?_ GE541.out | refine below_set ?_ GE556.out) | exact HB.out))))
          have n2_ := Aside0.mk (blk_below (g := gb540) (o := .cells #[.int .i64 a0_0, .slice (some ad546) l0_1.length c0_1] 24 (0, 0)) (by (with_reducible repeat (first | refine blk_drewN ?_ _ | refine blk_drew ?_ | refine blk_alloc ?_ _)); exact BK540.out) hb)
          have n3_ := Aside0.mk (blk_below (g := gb541) (o := .cells #[.int .i64 a1_0, .int .i64 a1_1, .int .i64 a1_2] 49 (0, 0)) (by (with_reducible repeat (first | refine blk_drewN ?_ _ | refine blk_drew ?_ | refine blk_alloc ?_ _)); exact BK541.out) hb)
          have n4_ := Aside0.mk (blk_below (g := gb556) (o := .cells #[.int .i64 0, .slice none 0 0] 24 (0, 0)) (by (with_reducible repeat (first | refine blk_drewN ?_ _ | refine blk_drew ?_ | refine blk_alloc ?_ _)); exact BK556.out) hb)
          have n5_ := Aside0.mk (below_step (by repeat (first | (with_reducible first | exact HB.out | apply below_alloc | apply pw_below_drewN | apply below_drew1 | refine below_set ?_ GE540.out | refine below_set ?_ GE541.out | refine below_set ?_ GE556.out) | exact HB.out)) hb)
          clear HO550
          clear BK540
          clear BK541
          clear BK556
          clear HB
          have HO550 := n0_
          have HO555 := n1_
          have BK540 := n2_
          have BK541 := n3_
          have BK556 := n4_
          have HB := n5_
          clear n0_ n1_ n2_ n3_ n4_ n5_
          (try clear hb)
          (try clear hb2)
          (try clear hk)
          (try clear hi)
          (try clear ho0)
          refine hK.out _ _ ⟨(blk_cell BK540.out 0).trans rfl, (blk_cell BK540.out 1).trans rfl, (blk_cell BK541.out 0).trans rfl, (blk_cell BK541.out 1).trans rfl, (blk_cell BK541.out 2).trans rfl, ((HB.out.cell (World.block_lt_of_cell? w _ hw546_0)).trans hw546_0), ((HB.out.cell (World.block_lt_of_cell? w _ hw547_0)).trans hw547_0)⟩ (fun hHeld => ?_)
          clear hK K
          refine norm_ (a' := ?_) ?_ ?_
          rotate_left
          ·show Act.put _ (some 58) _ = _
           simp only [Act.put, List.setIfInBounds_toArray, List.set_cons_zero, List.set_cons_succ, i64_w, i32_w]
           rfl
          exact norm_ (by simp only [putAll, Act.put, List.setIfInBounds_toArray, List.set_cons_zero, List.set_cons_succ]) (hCont (.slice Ao26 t548.length co26, v554, gb556) _ ⟨hHeld, (by (with_reducible repeat (first | apply Kd.R_alloc | apply Kd.R_drewN | apply Kd.R_drew)); exact HO550.out), (by (with_reducible repeat (first | apply Kd.V_alloc | apply Kd.V_drewN | apply Kd.V_drew)); exact HO555.out), (by (with_reducible repeat (first | refine blk_drewN ?_ _ | refine blk_drew ?_ | refine blk_alloc ?_ _)); exact BK540.out), (by (with_reducible repeat (first | refine blk_drewN ?_ _ | refine blk_drew ?_ | refine blk_alloc ?_ _)); exact BK541.out), (by (with_reducible repeat (first | refine blk_drewN ?_ _ | refine blk_drew ?_ | refine blk_alloc ?_ _)); exact BK556.out), GW556.out, GE556.out, NB540_556.out, NB556_540.out, NB541_556.out, NB556_541.out, (by repeat (first | (with_reducible first | exact HB.out | apply below_alloc | apply pw_below_drewN | apply below_drew1 | refine below_set ?_ GE540.out | refine below_set ?_ GE541.out | refine below_set ?_ GE556.out) | exact HB.out))⟩)
        ·skip
         refine box_step ?hg (N := 9) ?hd (cs := #[.int .i64 0, .slice none 0 0]) (t := 24) ?hr ?_; (case hd => rfl); (case hg => rfl); (case hr => first | (go_simp; done) | (go_simp; rfl))
         intro gb556 hg w26 hbox hb
         have n0_ := Aside0.mk (Kd.R_below (by (with_reducible repeat (first | apply Kd.R_alloc | apply Kd.R_drewN | apply Kd.R_drew)); exact HO550.out) hb)
         have n1_ := Aside0.mk (blk_below (g := gb540) (o := .cells #[.int .i64 a0_0, .slice (some ad546) l0_1.length c0_1] 24 (0, 0)) (by (with_reducible repeat (first | refine blk_drewN ?_ _ | refine blk_drew ?_ | refine blk_alloc ?_ _)); exact BK540.out) hb)
         have n2_ := Aside0.mk (blk_below (g := gb541) (o := .cells #[.int .i64 a1_0, .int .i64 a1_1, .int .i64 a1_2] 49 (0, 0)) (by (with_reducible repeat (first | refine blk_drewN ?_ _ | refine blk_drew ?_ | refine blk_alloc ?_ _)); exact BK541.out) hb)
         have n3_ := Aside0.mk (below_step (by repeat (first | (with_reducible first | exact HB.out | apply below_alloc | apply pw_below_drewN | apply below_drew1 | refine below_set ?_ GE540.out | refine below_set ?_ GE541.out) | exact HB.out)) hb)
         have n4_ := Aside0.mk (hbox)
         have n5_ := Aside0.mk ((by rw [hg]; exact (below_size (by repeat (first | (with_reducible first | exact HB.out | apply below_alloc | apply pw_below_drewN | apply below_drew1 | refine below_set ?_ GE540.out | refine below_set ?_ GE541.out) | exact HB.out))) : w.heap.size ≤ gb556))
         have n6_ := Aside0.mk ((by rw [hg]; exact (below_size (by repeat (first | (with_reducible first | exact HB.out | apply below_alloc | apply pw_below_drewN | apply below_drew1 | refine below_set ?_ GE540.out | refine below_set ?_ GE541.out) | exact HB.out))) : w.heap.size ≤ gb556))
         have n7_ := Aside0.mk ((by rw [hg]; exact Nat.ne_of_lt (blk_lt (g := gb540) (o := .cells #[.int .i64 a0_0, .slice (some ad546) l0_1.length c0_1] 24 (0, 0)) (by (with_reducible repeat (first | refine blk_drewN ?_ _ | refine blk_drew ?_ | refine blk_alloc ?_ _)); exact BK540.out)) : gb540 ≠ gb556))
         have n8_ := Aside0.mk ((by rw [hg]; exact Nat.ne_of_gt (blk_lt (g := gb540) (o := .cells #[.int .i64 a0_0, .slice (some ad546) l0_1.length c0_1] 24 (0, 0)) (by (with_reducible repeat (first | refine blk_drewN ?_ _ | refine blk_drew ?_ | refine blk_alloc ?_ _)); exact BK540.out)) : gb556 ≠ gb540))
         have n9_ := Aside0.mk ((by rw [hg]; exact Nat.ne_of_lt (blk_lt (g := gb541) (o := .cells #[.int .i64 a1_0, .int .i64 a1_1, .int .i64 a1_2] 49 (0, 0)) (by (with_reducible repeat (first | refine blk_drewN ?_ _ | refine blk_drew ?_ | refine blk_alloc ?_ _)); exact BK541.out)) : gb541 ≠ gb556))
         have n10_ := Aside0.mk ((by rw [hg]; exact Nat.ne_of_gt (blk_lt (g := gb541) (o := .cells #[.int .i64 a1_0, .int .i64 a1_1, .int .i64 a1_2] 49 (0, 0)) (by (with_reducible repeat (first | refine blk_drewN ?_ _ | refine blk_drew ?_ | refine blk_alloc ?_ _)); exact BK541.out)) : gb556 ≠ gb541))
         clear HO550
         clear BK540
         clear BK541
         clear HB
         have HO550 := n0_
         have BK540 := n1_
         have BK541 := n2_
         have HB := n3_
         have BK556 := n4_
         have GW556 := n5_
         have GE556 := n6_
         have NB540_556 := n7_
         have NB556_540 := n8_
         have NB541_556 := n9_
         have NB556_541 := n10_
         clear n0_ n1_ n2_ n3_ n4_ n5_ n6_ n7_ n8_ n9_ n10_
         clear hb hbox hg
         obtain ⟨Ao27, co27, eo27⟩ := Kd.R_slice HO550.out
         (first | subst eo27 | (injection eo27 with f1_ f2_ f3_; have f4_ := f1_.symm; have f5_ := f3_.symm; clear f1_ f2_ f3_; subst f4_; subst f5_))
         refine hK.out _ _ ⟨(blk_cell BK540.out 0).trans rfl, (blk_cell BK540.out 1).trans rfl, (blk_cell BK541.out 0).trans rfl, (blk_cell BK541.out 1).trans rfl, (blk_cell BK541.out 2).trans rfl, ((HB.out.cell (World.block_lt_of_cell? w _ hw546_0)).trans hw546_0), ((HB.out.cell (World.block_lt_of_cell? w _ hw547_0)).trans hw547_0)⟩ (fun hHeld => ?_)
         clear hK K
         refine norm_ (a' := ?_) ?_ ?_
         rotate_left
         ·show Act.put _ (some 9) _ = _
          simp only [Act.put, List.setIfInBounds_toArray, List.set_cons_zero, List.set_cons_succ, i64_w, i32_w]
          rfl
         refine one_ (i := 14) (N := some 57) #[true, true, true, true, true, true, true, true, true, true, true, true, true, true, true, false, true, false] rfl rfl (one_of HT_.out (by kernel_rfl)) (by decide) (fun K hK => ?_)
         refine goes_ Tryd.func50 (by kernel_rfl) rfl #[.slice Ao27 t548.length co27, .int .i64 a1_2] (by rfl) rfl rfl (by (try simp only [List.map_toArray, List.map_cons, List.map_nil]); first | done | rfl | (simp only [List.length_drop, List.length_take]; rfl)) ?_
         with_reducible refine (skewbaldref00_Take.calls _ _ t548 a1_2 t551 _ ?side1 ?side2 A13.out).mono ?_
         (case side1 => repeat (first | exact (Kd.R_reads' HO550.out).2.2 | (with_reducible refine Kd.C_alloc ?_ _) | (with_reducible refine Kd.C_drewN ?_ _) | (with_reducible refine Kd.C_drew ?_)))
         (case side2 => exact (Kd.R_reads' HO550.out).2.1)
         rintro e w' ⟨rfl, ⟨nd, rfl⟩⟩
         refine ⟨_, rfl, ?_⟩
         refine hK.out _ _ ⟨(blk_cell BK540.out 0).trans rfl, (blk_cell BK540.out 1).trans rfl, (blk_cell BK541.out 0).trans rfl, (blk_cell BK541.out 1).trans rfl, (blk_cell BK541.out 2).trans rfl, ((HB.out.cell (World.block_lt_of_cell? w _ hw546_0)).trans hw546_0), ((HB.out.cell (World.block_lt_of_cell? w _ hw547_0)).trans hw547_0)⟩ (fun hHeld => ?_)
         clear hK K
         refine norm_ (a' := ?_) ?_ ?_
         rotate_left
         ·show Act.put _ (some 57) _ = _
          simp only [Act.put, List.setIfInBounds_toArray, List.set_cons_zero, List.set_cons_succ, i64_w, i32_w]
          rfl
         refine one_ (i := 15) (N := some 58) #[true, true, true, true, true, true, true, true, true, true, true, true, true, true, true, true, true, false] rfl rfl (one_of HT_.out (by kernel_rfl)) (by decide) (fun K hK => ?_)
         refine goes_ Tryd.func49 (by kernel_rfl) rfl #[.agg #[.int .i64 a0_0, .slice (some ad546) l0_1.length c0_1], .int .i64 t544, .int .i64 t545, .int .i64 t551] (by rfl) rfl rfl (by (try simp only [List.map_toArray, List.map_cons, List.map_nil]); first | done | rfl | (simp only [List.length_drop, List.length_take]; rfl)) ?_
         with_reducible refine (skewbaldlaw07_known.calls a0_0 (fun k_ => k_ < w.heap.size) _ _ l0_1 t544 t545 t551 t552 t553 _ ?side1 A14.out).mono ?_
         (case side1 => exact Kd.V_mk HC0_1.out (Kd.F_below (Kd.C_F (Kd.heap_slice 3 (Kd.heap_int .i64)) HR0_1.out) (by repeat (first | (with_reducible first | exact HB.out | apply below_alloc | apply pw_below_drewN | apply below_drew1 | refine below_set ?_ GE540.out | refine below_set ?_ GE541.out | refine below_set ?_ GE556.out) | exact HB.out))))
         rintro e w28 ⟨v554, rfl, ho0, hb⟩
         refine ⟨_, rfl, ?_⟩
         have n0_ := Aside0.mk (Kd.R_below (by (with_reducible repeat (first | apply Kd.R_alloc | apply Kd.R_drewN | apply Kd.R_drew)); exact HO550.out) hb)
         have n1_ := Aside0.mk (Kd.V_lower (Kd.V_mono (ok' := fun k_ => some k_ ≠ (.slice Ao27 t548.length co27 : Value).ownBlock ∧ k_ ≠ gb540 ∧ k_ ≠ gb541 ∧ k_ ≠ gb556) ho0 (fun k_ hk_ => ⟨Or.elim hk_ (fun hs_ => fun e_ => Nat.not_le.2 hs_ (Kd.R_base HO550.out k_ e_.symm)) (fun hn_ => (Kd.fresh' (Kd.R_lt (by (with_reducible repeat (first | apply Kd.R_alloc | apply Kd.R_drewN | apply Kd.R_drew)); exact HO550.out)) k_ hn_)), Or.elim hk_ (fun hs_ => fun e_ => Nat.not_le.2 hs_ (by rw [e_]; exact GW540.out)) (fun hn_ => (Kd.freshB (g := gb540) (o := .cells #[.int .i64 a0_0, .slice (some ad546) l0_1.length c0_1] 24 (0, 0)) (by (with_reducible repeat (first | refine blk_drewN ?_ _ | refine blk_drew ?_ | refine blk_alloc ?_ _)); exact BK540.out) k_ hn_)), Or.elim hk_ (fun hs_ => fun e_ => Nat.not_le.2 hs_ (by rw [e_]; exact GW541.out)) (fun hn_ => (Kd.freshB (g := gb541) (o := .cells #[.int .i64 a1_0, .int .i64 a1_1, .int .i64 a1_2] 49 (0, 0)) (by (with_reducible repeat (first | refine blk_drewN ?_ _ | refine blk_drew ?_ | refine blk_alloc ?_ _)); exact BK541.out) k_ hn_)), Or.elim hk_ (fun hs_ => fun e_ => Nat.not_le.2 hs_ (by rw [e_]; exact GW556.out)) (fun hn_ => (Kd.freshB (g := gb556) (o := .cells #[.int .i64 0, .slice none 0 0] 24 (0, 0)) (by (with_reducible repeat (first | refine blk_drewN ?_ _ | refine blk_drew ?_ | refine blk_alloc ?_ _)); exact BK556.out) k_ hn_))⟩)) (below_size (by repeat (first | (with_reducible first | exact HB.out | apply below_alloc | apply pw_below_drewN | apply below_drew1 | refine below_set ?_ GE540.out | refine below_set ?_ GE541.out | refine below_set ?_ GE556.out) | exact HB.out))))
         have n2_ := Aside0.mk (blk_below (g := gb540) (o := .cells #[.int .i64 a0_0, .slice (some ad546) l0_1.length c0_1] 24 (0, 0)) (by (with_reducible repeat (first | refine blk_drewN ?_ _ | refine blk_drew ?_ | refine blk_alloc ?_ _)); exact BK540.out) hb)
         have n3_ := Aside0.mk (blk_below (g := gb541) (o := .cells #[.int .i64 a1_0, .int .i64 a1_1, .int .i64 a1_2] 49 (0, 0)) (by (with_reducible repeat (first | refine blk_drewN ?_ _ | refine blk_drew ?_ | refine blk_alloc ?_ _)); exact BK541.out) hb)
         have n4_ := Aside0.mk (blk_below (g := gb556) (o := .cells #[.int .i64 0, .slice none 0 0] 24 (0, 0)) (by (with_reducible repeat (first | refine blk_drewN ?_ _ | refine blk_drew ?_ | refine blk_alloc ?_ _)); exact BK556.out) hb)
         have n5_ := Aside0.mk (below_step (by repeat (first | (with_reducible first | exact HB.out | apply below_alloc | apply pw_below_drewN | apply below_drew1 | refine below_set ?_ GE540.out | refine below_set ?_ GE541.out | refine below_set ?_ GE556.out) | exact HB.out)) hb)
         clear HO550
         clear BK540
         clear BK541
         clear BK556
         clear HB
         have HO550 := n0_
         have HO555 := n1_
         have BK540 := n2_
         have BK541 := n3_
         have BK556 := n4_
         have HB := n5_
         clear n0_ n1_ n2_ n3_ n4_ n5_
         (try clear hb)
         (try clear hb2)
         (try clear hk)
         (try clear hi)
         (try clear ho0)
         refine hK.out _ _ ⟨(blk_cell BK540.out 0).trans rfl, (blk_cell BK540.out 1).trans rfl, (blk_cell BK541.out 0).trans rfl, (blk_cell BK541.out 1).trans rfl, (blk_cell BK541.out 2).trans rfl, ((HB.out.cell (World.block_lt_of_cell? w _ hw546_0)).trans hw546_0), ((HB.out.cell (World.block_lt_of_cell? w _ hw547_0)).trans hw547_0)⟩ (fun hHeld => ?_)
         clear hK K
         refine norm_ (a' := ?_) ?_ ?_
         rotate_left
         ·show Act.put _ (some 58) _ = _
          simp only [Act.put, List.setIfInBounds_toArray, List.set_cons_zero, List.set_cons_succ, i64_w, i32_w]
          rfl
         exact norm_ (by simp only [putAll, Act.put, List.setIfInBounds_toArray, List.set_cons_zero, List.set_cons_succ]) (hCont (.slice Ao27 t548.length co27, v554, gb556) _ ⟨hHeld, (by (with_reducible repeat (first | apply Kd.R_alloc | apply Kd.R_drewN | apply Kd.R_drew)); exact HO550.out), (by (with_reducible repeat (first | apply Kd.V_alloc | apply Kd.V_drewN | apply Kd.V_drew)); exact HO555.out), (by (with_reducible repeat (first | refine blk_drewN ?_ _ | refine blk_drew ?_ | refine blk_alloc ?_ _)); exact BK540.out), (by (with_reducible repeat (first | refine blk_drewN ?_ _ | refine blk_drew ?_ | refine blk_alloc ?_ _)); exact BK541.out), (by (with_reducible repeat (first | refine blk_drewN ?_ _ | refine blk_drew ?_ | refine blk_alloc ?_ _)); exact BK556.out), GW556.out, GE556.out, NB540_556.out, NB556_540.out, NB541_556.out, NB556_541.out, (by repeat (first | (with_reducible first | exact HB.out | apply below_alloc | apply pw_below_drewN | apply below_drew1 | refine below_set ?_ GE540.out | refine below_set ?_ GE541.out | refine below_set ?_ GE556.out) | exact HB.out))⟩)
       ·skip
        refine box_step ?hg (N := 9) ?hd (cs := #[.int .i64 0, .slice none 0 0]) (t := 24) ?hr ?_; (case hd => rfl); (case hg => rfl); (case hr => first | (go_simp; done) | (go_simp; rfl))
        intro gb556 hg w25 hbox hb
        have n0_ := Aside0.mk (blk_below (g := gb540) (o := .cells #[.int .i64 a0_0, .slice (some ad546) l0_1.length c0_1] 24 (0, 0)) (by (with_reducible repeat (first | refine blk_drewN ?_ _ | refine blk_drew ?_ | refine blk_alloc ?_ _)); exact BK540.out) hb)
        have n1_ := Aside0.mk (blk_below (g := gb541) (o := .cells #[.int .i64 a1_0, .int .i64 a1_1, .int .i64 a1_2] 49 (0, 0)) (by (with_reducible repeat (first | refine blk_drewN ?_ _ | refine blk_drew ?_ | refine blk_alloc ?_ _)); exact BK541.out) hb)
        have n2_ := Aside0.mk (below_step (by repeat (first | (with_reducible first | exact HB.out | apply below_alloc | apply pw_below_drewN | apply below_drew1 | refine below_set ?_ GE540.out | refine below_set ?_ GE541.out) | exact HB.out)) hb)
        have n3_ := Aside0.mk (hbox)
        have n4_ := Aside0.mk ((by rw [hg]; exact (below_size (by repeat (first | (with_reducible first | exact HB.out | apply below_alloc | apply pw_below_drewN | apply below_drew1 | refine below_set ?_ GE540.out | refine below_set ?_ GE541.out) | exact HB.out))) : w.heap.size ≤ gb556))
        have n5_ := Aside0.mk ((by rw [hg]; exact (below_size (by repeat (first | (with_reducible first | exact HB.out | apply below_alloc | apply pw_below_drewN | apply below_drew1 | refine below_set ?_ GE540.out | refine below_set ?_ GE541.out) | exact HB.out))) : w.heap.size ≤ gb556))
        have n6_ := Aside0.mk ((by rw [hg]; exact Nat.ne_of_lt (blk_lt (g := gb540) (o := .cells #[.int .i64 a0_0, .slice (some ad546) l0_1.length c0_1] 24 (0, 0)) (by (with_reducible repeat (first | refine blk_drewN ?_ _ | refine blk_drew ?_ | refine blk_alloc ?_ _)); exact BK540.out)) : gb540 ≠ gb556))
        have n7_ := Aside0.mk ((by rw [hg]; exact Nat.ne_of_gt (blk_lt (g := gb540) (o := .cells #[.int .i64 a0_0, .slice (some ad546) l0_1.length c0_1] 24 (0, 0)) (by (with_reducible repeat (first | refine blk_drewN ?_ _ | refine blk_drew ?_ | refine blk_alloc ?_ _)); exact BK540.out)) : gb556 ≠ gb540))
        have n8_ := Aside0.mk ((by rw [hg]; exact Nat.ne_of_lt (blk_lt (g := gb541) (o := .cells #[.int .i64 a1_0, .int .i64 a1_1, .int .i64 a1_2] 49 (0, 0)) (by (with_reducible repeat (first | refine blk_drewN ?_ _ | refine blk_drew ?_ | refine blk_alloc ?_ _)); exact BK541.out)) : gb541 ≠ gb556))
        have n9_ := Aside0.mk ((by rw [hg]; exact Nat.ne_of_gt (blk_lt (g := gb541) (o := .cells #[.int .i64 a1_0, .int .i64 a1_1, .int .i64 a1_2] 49 (0, 0)) (by (with_reducible repeat (first | refine blk_drewN ?_ _ | refine blk_drew ?_ | refine blk_alloc ?_ _)); exact BK541.out)) : gb556 ≠ gb541))
        clear BK540
        clear BK541
        clear HB
        have BK540 := n0_
        have BK541 := n1_
        have HB := n2_
        have BK556 := n3_
        have GW556 := n4_
        have GE556 := n5_
        have NB540_556 := n6_
        have NB556_540 := n7_
        have NB541_556 := n8_
        have NB556_541 := n9_
        clear n0_ n1_ n2_ n3_ n4_ n5_ n6_ n7_ n8_ n9_
        clear hb hbox hg
        refine hK.out _ _ ⟨(blk_cell BK540.out 0).trans rfl, (blk_cell BK540.out 1).trans rfl, (blk_cell BK541.out 0).trans rfl, (blk_cell BK541.out 1).trans rfl, (blk_cell BK541.out 2).trans rfl, ((HB.out.cell (World.block_lt_of_cell? w _ hw546_0)).trans hw546_0), ((HB.out.cell (World.block_lt_of_cell? w _ hw547_0)).trans hw547_0)⟩ (fun hHeld => ?_)
        clear hK K
        refine norm_ (a' := ?_) ?_ ?_
        rotate_left
        ·show Act.put _ (some 9) _ = _
         simp only [Act.put, List.setIfInBounds_toArray, List.set_cons_zero, List.set_cons_succ, i64_w, i32_w]
         rfl
        refine one_ (i := 11) (N := some 54) #[true, true, true, true, true, true, true, true, true, true, true, true, true, true, false, false, true, false] rfl rfl (one_of HT_.out (by kernel_rfl)) (by decide) (fun K hK => ?_)
        refine goes_ Tryd.func38 (by kernel_rfl) rfl #[.int .i64 (rd (rd_L1 l0_1 t544) t545), .int .i64 4] (by rfl) rfl rfl (by (try simp only [List.map_toArray, List.map_cons, List.map_nil]); first | done | rfl | (simp only [List.length_drop, List.length_take]; rfl)) ?_
        with_reducible refine (skewbaldref00_List.calls k (rd (rd_L1 l0_1 t544) t545) 4 t548 _ A12.out).mono ?_
        rintro e w26 ⟨v549, rfl, ho0, hb⟩
        refine ⟨_, rfl, ?_⟩
        have n0_ := Aside0.mk (Kd.R_lower ho0 (below_size (by repeat (first | (with_reducible first | exact HB.out | apply below_alloc | apply pw_below_drewN | apply below_drew1 | refine below_set ?_ GE540.out | refine below_set ?_ GE541.out | refine below_set ?_ GE556.out) | exact HB.out))))
        have n1_ := Aside0.mk (blk_below (g := gb540) (o := .cells #[.int .i64 a0_0, .slice (some ad546) l0_1.length c0_1] 24 (0, 0)) (by (with_reducible repeat (first | refine blk_drewN ?_ _ | refine blk_drew ?_ | refine blk_alloc ?_ _)); exact BK540.out) hb)
        have n2_ := Aside0.mk (blk_below (g := gb541) (o := .cells #[.int .i64 a1_0, .int .i64 a1_1, .int .i64 a1_2] 49 (0, 0)) (by (with_reducible repeat (first | refine blk_drewN ?_ _ | refine blk_drew ?_ | refine blk_alloc ?_ _)); exact BK541.out) hb)
        have n3_ := Aside0.mk (blk_below (g := gb556) (o := .cells #[.int .i64 0, .slice none 0 0] 24 (0, 0)) (by (with_reducible repeat (first | refine blk_drewN ?_ _ | refine blk_drew ?_ | refine blk_alloc ?_ _)); exact BK556.out) hb)
        have n4_ := Aside0.mk (below_step (by repeat (first | (with_reducible first | exact HB.out | apply below_alloc | apply pw_below_drewN | apply below_drew1 | refine below_set ?_ GE540.out | refine below_set ?_ GE541.out | refine below_set ?_ GE556.out) | exact HB.out)) hb)
        clear BK540
        clear BK541
        clear BK556
        clear HB
        have HO550 := n0_
        have BK540 := n1_
        have BK541 := n2_
        have BK556 := n3_
        have HB := n4_
        clear n0_ n1_ n2_ n3_ n4_
        (try clear hb)
        (try clear hb2)
        (try clear hk)
        (try clear hi)
        (try clear ho0)
        obtain ⟨Ao27, co27, eo27⟩ := Kd.R_slice HO550.out
        (first | subst eo27 | (injection eo27 with f1_ f2_ f3_; have f4_ := f1_.symm; have f5_ := f3_.symm; clear f1_ f2_ f3_; subst f4_; subst f5_))
        refine hK.out _ _ ⟨(blk_cell BK540.out 0).trans rfl, (blk_cell BK540.out 1).trans rfl, (blk_cell BK541.out 0).trans rfl, (blk_cell BK541.out 1).trans rfl, (blk_cell BK541.out 2).trans rfl, ((HB.out.cell (World.block_lt_of_cell? w _ hw546_0)).trans hw546_0), ((HB.out.cell (World.block_lt_of_cell? w _ hw547_0)).trans hw547_0)⟩ (fun hHeld => ?_)
        clear hK K
        refine norm_ (a' := ?_) ?_ ?_
        rotate_left
        ·show Act.put _ (some 54) _ = _
         simp only [Act.put, List.setIfInBounds_toArray, List.set_cons_zero, List.set_cons_succ, i64_w, i32_w]
         rfl
        refine one_ (i := 14) (N := some 57) #[true, true, true, true, true, true, true, true, true, true, true, true, true, true, true, false, true, false] rfl rfl (one_of HT_.out (by kernel_rfl)) (by decide) (fun K hK => ?_)
        refine goes_ Tryd.func50 (by kernel_rfl) rfl #[.slice Ao27 t548.length co27, .int .i64 a1_2] (by rfl) rfl rfl (by (try simp only [List.map_toArray, List.map_cons, List.map_nil]); first | done | rfl | (simp only [List.length_drop, List.length_take]; rfl)) ?_
        with_reducible refine (skewbaldref00_Take.calls _ _ t548 a1_2 t551 _ ?side1 ?side2 A13.out).mono ?_
        (case side1 => repeat (first | exact (Kd.R_reads' HO550.out).2.2 | (with_reducible refine Kd.C_alloc ?_ _) | (with_reducible refine Kd.C_drewN ?_ _) | (with_reducible refine Kd.C_drew ?_)))
        (case side2 => exact (Kd.R_reads' HO550.out).2.1)
        rintro e w' ⟨rfl, ⟨nd, rfl⟩⟩
        refine ⟨_, rfl, ?_⟩
        refine hK.out _ _ ⟨(blk_cell BK540.out 0).trans rfl, (blk_cell BK540.out 1).trans rfl, (blk_cell BK541.out 0).trans rfl, (blk_cell BK541.out 1).trans rfl, (blk_cell BK541.out 2).trans rfl, ((HB.out.cell (World.block_lt_of_cell? w _ hw546_0)).trans hw546_0), ((HB.out.cell (World.block_lt_of_cell? w _ hw547_0)).trans hw547_0)⟩ (fun hHeld => ?_)
        clear hK K
        refine norm_ (a' := ?_) ?_ ?_
        rotate_left
        ·show Act.put _ (some 57) _ = _
         simp only [Act.put, List.setIfInBounds_toArray, List.set_cons_zero, List.set_cons_succ, i64_w, i32_w]
         rfl
        refine one_ (i := 15) (N := some 58) #[true, true, true, true, true, true, true, true, true, true, true, true, true, true, true, true, true, false] rfl rfl (one_of HT_.out (by kernel_rfl)) (by decide) (fun K hK => ?_)
        refine goes_ Tryd.func49 (by kernel_rfl) rfl #[.agg #[.int .i64 a0_0, .slice (some ad546) l0_1.length c0_1], .int .i64 t544, .int .i64 t545, .int .i64 t551] (by rfl) rfl rfl (by (try simp only [List.map_toArray, List.map_cons, List.map_nil]); first | done | rfl | (simp only [List.length_drop, List.length_take]; rfl)) ?_
        with_reducible refine (skewbaldlaw07_known.calls a0_0 (fun k_ => k_ < w.heap.size) _ _ l0_1 t544 t545 t551 t552 t553 _ ?side1 A14.out).mono ?_
        (case side1 => exact Kd.V_mk HC0_1.out (Kd.F_below (Kd.C_F (Kd.heap_slice 3 (Kd.heap_int .i64)) HR0_1.out) (by repeat (first | (with_reducible first | exact HB.out | apply below_alloc | apply pw_below_drewN | apply below_drew1 | refine below_set ?_ GE540.out | refine below_set ?_ GE541.out | refine below_set ?_ GE556.out) | exact HB.out))))
        rintro e w28 ⟨v554, rfl, ho0, hb⟩
        refine ⟨_, rfl, ?_⟩
        have n0_ := Aside0.mk (Kd.R_below (by (with_reducible repeat (first | apply Kd.R_alloc | apply Kd.R_drewN | apply Kd.R_drew)); exact HO550.out) hb)
        have n1_ := Aside0.mk (Kd.V_lower (Kd.V_mono (ok' := fun k_ => some k_ ≠ (.slice Ao27 t548.length co27 : Value).ownBlock ∧ k_ ≠ gb540 ∧ k_ ≠ gb541 ∧ k_ ≠ gb556) ho0 (fun k_ hk_ => ⟨Or.elim hk_ (fun hs_ => fun e_ => Nat.not_le.2 hs_ (Kd.R_base HO550.out k_ e_.symm)) (fun hn_ => (Kd.fresh' (Kd.R_lt (by (with_reducible repeat (first | apply Kd.R_alloc | apply Kd.R_drewN | apply Kd.R_drew)); exact HO550.out)) k_ hn_)), Or.elim hk_ (fun hs_ => fun e_ => Nat.not_le.2 hs_ (by rw [e_]; exact GW540.out)) (fun hn_ => (Kd.freshB (g := gb540) (o := .cells #[.int .i64 a0_0, .slice (some ad546) l0_1.length c0_1] 24 (0, 0)) (by (with_reducible repeat (first | refine blk_drewN ?_ _ | refine blk_drew ?_ | refine blk_alloc ?_ _)); exact BK540.out) k_ hn_)), Or.elim hk_ (fun hs_ => fun e_ => Nat.not_le.2 hs_ (by rw [e_]; exact GW541.out)) (fun hn_ => (Kd.freshB (g := gb541) (o := .cells #[.int .i64 a1_0, .int .i64 a1_1, .int .i64 a1_2] 49 (0, 0)) (by (with_reducible repeat (first | refine blk_drewN ?_ _ | refine blk_drew ?_ | refine blk_alloc ?_ _)); exact BK541.out) k_ hn_)), Or.elim hk_ (fun hs_ => fun e_ => Nat.not_le.2 hs_ (by rw [e_]; exact GW556.out)) (fun hn_ => (Kd.freshB (g := gb556) (o := .cells #[.int .i64 0, .slice none 0 0] 24 (0, 0)) (by (with_reducible repeat (first | refine blk_drewN ?_ _ | refine blk_drew ?_ | refine blk_alloc ?_ _)); exact BK556.out) k_ hn_))⟩)) (below_size (by repeat (first | (with_reducible first | exact HB.out | apply below_alloc | apply pw_below_drewN | apply below_drew1 | refine below_set ?_ GE540.out | refine below_set ?_ GE541.out | refine below_set ?_ GE556.out) | exact HB.out))))
        have n2_ := Aside0.mk (blk_below (g := gb540) (o := .cells #[.int .i64 a0_0, .slice (some ad546) l0_1.length c0_1] 24 (0, 0)) (by (with_reducible repeat (first | refine blk_drewN ?_ _ | refine blk_drew ?_ | refine blk_alloc ?_ _)); exact BK540.out) hb)
        have n3_ := Aside0.mk (blk_below (g := gb541) (o := .cells #[.int .i64 a1_0, .int .i64 a1_1, .int .i64 a1_2] 49 (0, 0)) (by (with_reducible repeat (first | refine blk_drewN ?_ _ | refine blk_drew ?_ | refine blk_alloc ?_ _)); exact BK541.out) hb)
        have n4_ := Aside0.mk (blk_below (g := gb556) (o := .cells #[.int .i64 0, .slice none 0 0] 24 (0, 0)) (by (with_reducible repeat (first | refine blk_drewN ?_ _ | refine blk_drew ?_ | refine blk_alloc ?_ _)); exact BK556.out) hb)
        have n5_ := Aside0.mk (below_step (by repeat (first | (with_reducible first | exact HB.out | apply below_alloc | apply pw_below_drewN | apply below_drew1 | refine below_set ?_ GE540.out | refine below_set ?_ GE541.out | refine below_set ?_ GE556.out) | exact HB.out)) hb)
        clear HO550
        clear BK540
        clear BK541
        clear BK556
        clear HB
        have HO550 := n0_
        have HO555 := n1_
        have BK540 := n2_
        have BK541 := n3_
        have BK556 := n4_
        have HB := n5_
        clear n0_ n1_ n2_ n3_ n4_ n5_
        (try clear hb)
        (try clear hb2)
        (try clear hk)
        (try clear hi)
        (try clear ho0)
        refine hK.out _ _ ⟨(blk_cell BK540.out 0).trans rfl, (blk_cell BK540.out 1).trans rfl, (blk_cell BK541.out 0).trans rfl, (blk_cell BK541.out 1).trans rfl, (blk_cell BK541.out 2).trans rfl, ((HB.out.cell (World.block_lt_of_cell? w _ hw546_0)).trans hw546_0), ((HB.out.cell (World.block_lt_of_cell? w _ hw547_0)).trans hw547_0)⟩ (fun hHeld => ?_)
        clear hK K
        refine norm_ (a' := ?_) ?_ ?_
        rotate_left
        ·show Act.put _ (some 58) _ = _
         simp only [Act.put, List.setIfInBounds_toArray, List.set_cons_zero, List.set_cons_succ, i64_w, i32_w]
         rfl
        exact norm_ (by simp only [putAll, Act.put, List.setIfInBounds_toArray, List.set_cons_zero, List.set_cons_succ]) (hCont (.slice Ao27 t548.length co27, v554, gb556) _ ⟨hHeld, (by (with_reducible repeat (first | apply Kd.R_alloc | apply Kd.R_drewN | apply Kd.R_drew)); exact HO550.out), (by (with_reducible repeat (first | apply Kd.V_alloc | apply Kd.V_drewN | apply Kd.V_drew)); exact HO555.out), (by (with_reducible repeat (first | refine blk_drewN ?_ _ | refine blk_drew ?_ | refine blk_alloc ?_ _)); exact BK540.out), (by (with_reducible repeat (first | refine blk_drewN ?_ _ | refine blk_drew ?_ | refine blk_alloc ?_ _)); exact BK541.out), (by (with_reducible repeat (first | refine blk_drewN ?_ _ | refine blk_drew ?_ | refine blk_alloc ?_ _)); exact BK556.out), GW556.out, GE556.out, NB540_556.out, NB556_540.out, NB541_556.out, NB556_541.out, (by repeat (first | (with_reducible first | exact HB.out | apply below_alloc | apply pw_below_drewN | apply below_drew1 | refine below_set ?_ GE540.out | refine below_set ?_ GE541.out | refine below_set ?_ GE556.out) | exact HB.out))⟩)
      rintro ⟨v549, v554, gb556⟩ w29 ⟨hS_, h0_, h1_, h2_, h3_, h4_, h5_, h6_, h7_, h8_, h9_, h10_, h11_⟩
      have n0_ : Aside0 (Kd.R (Kd.int .i64) 3 w29 w.heap.size (fun _ => True) v549 t548) := ⟨h0_⟩
      have n1_ : Aside0 (Kd.V (Kd.slice 3 (Kd.int .i64)) 26 w29 w.heap.size (fun k_ => some k_ ≠ (v549 : Value).ownBlock ∧ k_ ≠ gb540 ∧ k_ ≠ gb541 ∧ k_ ≠ gb556) v554 t553) := ⟨h1_⟩
      have n2_ : Aside0 (w29.heap[gb540]? = some (.cells #[.int .i64 a0_0, .slice (some ad546) l0_1.length c0_1] 24 (0, 0))) := ⟨h2_⟩
      have n3_ : Aside0 (w29.heap[gb541]? = some (.cells #[.int .i64 a1_0, .int .i64 a1_1, .int .i64 a1_2] 49 (0, 0))) := ⟨h3_⟩
      have n4_ : Aside0 (w29.heap[gb556]? = some (.cells #[.int .i64 0, .slice none 0 0] 24 (0, 0))) := ⟨h4_⟩
      have n5_ : Aside0 (w.heap.size ≤ gb556) := ⟨h5_⟩
      have n6_ : Aside0 (w.heap.size ≤ gb556) := ⟨h6_⟩
      have n7_ : Aside0 (gb540 ≠ gb556) := ⟨h7_⟩
      have n8_ : Aside0 (gb556 ≠ gb540) := ⟨h8_⟩
      have n9_ : Aside0 (gb541 ≠ gb556) := ⟨h9_⟩
      have n10_ : Aside0 (gb556 ≠ gb541) := ⟨h10_⟩
      have n11_ : Aside0 (Below w.heap.size w w29) := ⟨h11_⟩
      clear BK540
      clear BK541
      clear HB
      clear h0_ h1_ h2_ h3_ h4_ h5_ h6_ h7_ h8_ h9_ h10_ h11_
      have HO550 := n0_
      have HO555 := n1_
      have BK540 := n2_
      have BK541 := n3_
      have BK556 := n4_
      have GW556 := n5_
      have GE556 := n6_
      have NB540_556 := n7_
      have NB556_540 := n8_
      have NB541_556 := n9_
      have NB556_541 := n10_
      have HB := n11_
      clear n0_ n1_ n2_ n3_ n4_ n5_ n6_ n7_ n8_ n9_ n10_ n11_
      have hHeld : w29.cell? ⟨gb540, 0, none⟩ = some (.int .i64 a0_0) ∧ w29.cell? ⟨gb540, 1, none⟩ = some (.slice (some ad546) l0_1.length c0_1) ∧ w29.cell? ⟨gb541, 0, none⟩ = some (.int .i64 a1_0) ∧ w29.cell? ⟨gb541, 1, none⟩ = some (.int .i64 a1_1) ∧ w29.cell? ⟨gb541, 2, none⟩ = some (.int .i64 a1_2) ∧ w29.cell? (ad546.add (t544).toNat) = some (.slice (some ad547) (rd_L1 l0_1 t544).length c546_0) ∧ w29.cell? (ad547.add (t545).toNat) = some (.int .i64 (rd (rd_L1 l0_1 t544) t545)) := hS_
      obtain ⟨Ao31, co31, eo31⟩ := Kd.V_slice HO555.out
      (first | subst eo31 | (injection eo31 with f1_ f2_ f3_; have f4_ := f1_.symm; have f5_ := f3_.symm; clear f1_ f2_ f3_; subst f4_; subst f5_))
      refine norm_ (a' := ?_) ?_ ?_
      rotate_left
      ·simp only [putAll, Act.put, List.setIfInBounds_toArray, List.set_cons_zero, List.set_cons_succ]
       rfl
      refine one_ (i := 17) (N := none) #[true, true, true, true, true, true, true, true, true, true, true, true, true, true, true, true, true, true] rfl rfl (one_of HT_.out (by kernel_rfl)) (by decide) (fun K hK => ?_)
      have hs30 : w29.cell? ⟨gb556, 0, none⟩ = some (.int .i64 0) := (blk_cell BK556.out 0).trans rfl
      have hfs30 := blk_frozen BK556.out 0
      have hns30_0 := NB540_556.out
      have hns30_1 := NB541_556.out
      have hms30_0 := NB556_540.out
      have hms30_1 := NB556_541.out
      have hs32 : w29.cell? ⟨gb556, 1, none⟩ = some (.slice none 0 0) := (blk_cell BK556.out 1).trans rfl
      have hfs32 := blk_frozen BK556.out 1
      have hns32_0 := NB540_556.out
      have hns32_1 := NB541_556.out
      have hms32_0 := NB556_540.out
      have hms32_1 := NB556_541.out
      refine skip_ (w1 := ?_) (by rfl) rfl ?_ ?_
      rotate_left
      ·go_simp
       rfl
      refine hK.out _ _ ⟨((cell_far (p := ⟨gb556, _, none⟩) NB540_556.out _).trans (((cell_far (p := ⟨gb556, _, none⟩) NB540_556.out _).trans (hHeld.1)))), ((cell_far (p := ⟨gb556, _, none⟩) NB540_556.out _).trans (((cell_far (p := ⟨gb556, _, none⟩) NB540_556.out _).trans (hHeld.2.1)))), ((cell_far (p := ⟨gb556, _, none⟩) NB541_556.out _).trans (((cell_far (p := ⟨gb556, _, none⟩) NB541_556.out _).trans (hHeld.2.2.1)))), ((cell_far (p := ⟨gb556, _, none⟩) NB541_556.out _).trans (((cell_far (p := ⟨gb556, _, none⟩) NB541_556.out _).trans (hHeld.2.2.2.1)))), ((cell_far (p := ⟨gb556, _, none⟩) NB541_556.out _).trans (((cell_far (p := ⟨gb556, _, none⟩) NB541_556.out _).trans (hHeld.2.2.2.2.1)))), ((cell_far (p := ⟨gb556, _, none⟩) (by first | exact Nat.ne_of_lt (Nat.lt_of_lt_of_le (by have := World.block_lt_of_cell? _ _ hw546_0; first | rwa [add_block] at this | exact this) GW556.out) | (rw [add_block]; exact Nat.ne_of_lt (Nat.lt_of_lt_of_le (by have := World.block_lt_of_cell? _ _ hw546_0; first | rwa [add_block] at this | exact this) GW556.out)) | (show (Addr.add _ _).block ≠ _; rw [add_block]; exact Nat.ne_of_lt (Nat.lt_of_lt_of_le (by have := World.block_lt_of_cell? _ _ hw546_0; first | rwa [add_block] at this | exact this) GW556.out)) | (dsimp only; exact Nat.ne_of_lt (Nat.lt_of_lt_of_le (by have := World.block_lt_of_cell? _ _ hw546_0; first | rwa [add_block] at this | exact this) GW556.out))) _).trans (((cell_far (p := ⟨gb556, _, none⟩) (by first | exact Nat.ne_of_lt (Nat.lt_of_lt_of_le (by have := World.block_lt_of_cell? _ _ hw546_0; first | rwa [add_block] at this | exact this) GW556.out) | (rw [add_block]; exact Nat.ne_of_lt (Nat.lt_of_lt_of_le (by have := World.block_lt_of_cell? _ _ hw546_0; first | rwa [add_block] at this | exact this) GW556.out)) | (show (Addr.add _ _).block ≠ _; rw [add_block]; exact Nat.ne_of_lt (Nat.lt_of_lt_of_le (by have := World.block_lt_of_cell? _ _ hw546_0; first | rwa [add_block] at this | exact this) GW556.out)) | (dsimp only; exact Nat.ne_of_lt (Nat.lt_of_lt_of_le (by have := World.block_lt_of_cell? _ _ hw546_0; first | rwa [add_block] at this | exact this) GW556.out))) _).trans (hHeld.2.2.2.2.2.1)))), ((cell_far (p := ⟨gb556, _, none⟩) (by first | exact Nat.ne_of_lt (Nat.lt_of_lt_of_le (by have := World.block_lt_of_cell? _ _ hw547_0; first | rwa [add_block] at this | exact this) GW556.out) | (rw [add_block]; exact Nat.ne_of_lt (Nat.lt_of_lt_of_le (by have := World.block_lt_of_cell? _ _ hw547_0; first | rwa [add_block] at this | exact this) GW556.out)) | (show (Addr.add _ _).block ≠ _; rw [add_block]; exact Nat.ne_of_lt (Nat.lt_of_lt_of_le (by have := World.block_lt_of_cell? _ _ hw547_0; first | rwa [add_block] at this | exact this) GW556.out)) | (dsimp only; exact Nat.ne_of_lt (Nat.lt_of_lt_of_le (by have := World.block_lt_of_cell? _ _ hw547_0; first | rwa [add_block] at this | exact this) GW556.out))) _).trans (((cell_far (p := ⟨gb556, _, none⟩) (by first | exact Nat.ne_of_lt (Nat.lt_of_lt_of_le (by have := World.block_lt_of_cell? _ _ hw547_0; first | rwa [add_block] at this | exact this) GW556.out) | (rw [add_block]; exact Nat.ne_of_lt (Nat.lt_of_lt_of_le (by have := World.block_lt_of_cell? _ _ hw547_0; first | rwa [add_block] at this | exact this) GW556.out)) | (show (Addr.add _ _).block ≠ _; rw [add_block]; exact Nat.ne_of_lt (Nat.lt_of_lt_of_le (by have := World.block_lt_of_cell? _ _ hw547_0; first | rwa [add_block] at this | exact this) GW556.out)) | (dsimp only; exact Nat.ne_of_lt (Nat.lt_of_lt_of_le (by have := World.block_lt_of_cell? _ _ hw547_0; first | rwa [add_block] at this | exact this) GW556.out))) _).trans (hHeld.2.2.2.2.2.2))))⟩ (fun hHeld => ?_)
      clear hK K
      refine done_ (done_of HT_.out (by kernel_rfl)) ?_
      try go_wp2
      have n0_ : Aside0 (Kd.R (Kd.int .i64) 3 ((w29.setCell ⟨gb556, 0, none⟩ (.int .i64 t552)).setCell ⟨gb556, 1, none⟩ (.slice Ao31 t553.length co31)) w.heap.size (fun _ => True) v549 t548) := ⟨by (with_reducible repeat (first | apply Kd.R_alloc | apply Kd.R_drewN | apply Kd.R_drew)); exact Kd.R_mono (Kd.R_far (p := ⟨gb556, 1, none⟩) (Kd.R_far (p := ⟨gb556, 0, none⟩) (Kd.R_types HO550.out BK556.out (by decide)) (fun _ hk => hk.2) (.int .i64 t552)) (fun _ hk => hk.2) (.slice Ao31 t553.length co31)) (fun _ hk => trivial)⟩
      have n1_ : Aside0 (Kd.V (Kd.slice 3 (Kd.int .i64)) 26 ((w29.setCell ⟨gb556, 0, none⟩ (.int .i64 t552)).setCell ⟨gb556, 1, none⟩ (.slice Ao31 t553.length co31)) w.heap.size (fun k_ => some k_ ≠ (v549 : Value).ownBlock ∧ k_ ≠ gb540 ∧ k_ ≠ gb541 ∧ k_ ≠ gb556) (.slice Ao31 t553.length co31) t553) := ⟨by (with_reducible repeat (first | apply Kd.V_alloc | apply Kd.V_drewN | apply Kd.V_drew)); exact Kd.V_mono (Kd.V_far (p := ⟨gb556, 1, none⟩) (Kd.V_far (p := ⟨gb556, 0, none⟩) (Kd.V_mono HO555.out (fun k_ hk => (⟨hk, hk.2.2.2⟩ : _ ∧ k_ ≠ gb556))) (fun _ hk => hk.2) (.int .i64 t552)) (fun _ hk => hk.2) (.slice Ao31 t553.length co31)) (fun _ hk => ⟨hk.1.1, ⟨hk.1.2.1, ⟨hk.1.2.2.1, hk.1.2.2.2⟩⟩⟩)⟩
      have n2_ : Aside0 (((w29.setCell ⟨gb556, 0, none⟩ (.int .i64 t552)).setCell ⟨gb556, 1, none⟩ (.slice Ao31 t553.length co31)).heap[gb540]? = some (.cells #[.int .i64 a0_0, .slice (some ad546) l0_1.length c0_1] 24 (0, 0))) := ⟨by (with_reducible repeat (first | refine blk_drewN ?_ _ | refine blk_drew ?_ | refine blk_alloc ?_ _)); refine blk_far ?_ NB540_556.out _; (with_reducible repeat (first | refine blk_drewN ?_ _ | refine blk_drew ?_ | refine blk_alloc ?_ _)); refine blk_far ?_ NB540_556.out _; (with_reducible repeat (first | refine blk_drewN ?_ _ | refine blk_drew ?_ | refine blk_alloc ?_ _)); exact BK540.out⟩
      have n3_ : Aside0 (((w29.setCell ⟨gb556, 0, none⟩ (.int .i64 t552)).setCell ⟨gb556, 1, none⟩ (.slice Ao31 t553.length co31)).heap[gb541]? = some (.cells #[.int .i64 a1_0, .int .i64 a1_1, .int .i64 a1_2] 49 (0, 0))) := ⟨by (with_reducible repeat (first | refine blk_drewN ?_ _ | refine blk_drew ?_ | refine blk_alloc ?_ _)); refine blk_far ?_ NB541_556.out _; (with_reducible repeat (first | refine blk_drewN ?_ _ | refine blk_drew ?_ | refine blk_alloc ?_ _)); refine blk_far ?_ NB541_556.out _; (with_reducible repeat (first | refine blk_drewN ?_ _ | refine blk_drew ?_ | refine blk_alloc ?_ _)); exact BK541.out⟩
      have n4_ : Aside0 (((w29.setCell ⟨gb556, 0, none⟩ (.int .i64 t552)).setCell ⟨gb556, 1, none⟩ (.slice Ao31 t553.length co31)).heap[gb556]? = some (.cells #[.int .i64 t552, .slice Ao31 t553.length co31] 24 (0, 0))) := ⟨by (with_reducible repeat (first | refine blk_drewN ?_ _ | refine blk_drew ?_ | refine blk_alloc ?_ _)); refine blk_put (cs := #[.int .i64 t552, .slice none 0 0]) ?_ 1 _ rfl; (with_reducible repeat (first | refine blk_drewN ?_ _ | refine blk_drew ?_ | refine blk_alloc ?_ _)); refine blk_put (cs := #[.int .i64 0, .slice none 0 0]) ?_ 0 _ rfl; (with_reducible repeat (first | refine blk_drewN ?_ _ | refine blk_drew ?_ | refine blk_alloc ?_ _)); exact BK556.out⟩
      have n5_ : Aside0 (Below w.heap.size w ((w29.setCell ⟨gb556, 0, none⟩ (.int .i64 t552)).setCell ⟨gb556, 1, none⟩ (.slice Ao31 t553.length co31))) := ⟨by repeat (first | (with_reducible first | exact HB.out | apply below_alloc | apply pw_below_drewN | apply below_drew1 | refine below_set ?_ GE540.out | refine below_set ?_ GE541.out | refine below_set ?_ GE556.out) | exact HB.out)⟩
      (try clear HO550)
      (try clear HO555)
      (try clear BK540)
      (try clear BK541)
      (try clear BK556)
      (try clear HB)
      generalize ((w29.setCell ⟨gb556, 0, none⟩ (.int .i64 t552)).setCell ⟨gb556, 1, none⟩ (.slice Ao31 t553.length co31)) = w33 at n0_ n1_ n2_ n3_ n4_ n5_ ⊢
      have HO550 := n0_
      have HO555 := n1_
      have BK540 := n2_
      have BK541 := n3_
      have BK556 := n4_
      have HB := n5_
      clear n0_ n1_ n2_ n3_ n4_ n5_
      have n0_ := Aside0.mk (Kd.R_drew HO550.out)
      have n1_ := Aside0.mk (Kd.V_drew HO555.out)
      have n2_ := Aside0.mk (blk_drew BK540.out)
      have n3_ := Aside0.mk (blk_drew BK541.out)
      have n4_ := Aside0.mk (blk_drew BK556.out)
      have n5_ := Aside0.mk (below_drew1 HB.out)
      clear HO550
      clear HO555
      clear BK540
      clear BK541
      clear BK556
      clear HB
      have HO550 := n0_
      have HO555 := n1_
      have BK540 := n2_
      have BK541 := n3_
      have BK556 := n4_
      have HB := n5_
      clear n0_ n1_ n2_ n3_ n4_ n5_
      refine start_ (n := 6) (S := fun w' => w'.cell? ⟨gb540, 0, none⟩ = some (.int .i64 a0_0) ∧ w'.cell? ⟨gb540, 1, none⟩ = some (.slice (some ad546) l0_1.length c0_1) ∧ w'.cell? ⟨gb556, 0, none⟩ = some (.int .i64 t552) ∧ w'.cell? ⟨gb556, 1, none⟩ = some (.slice Ao31 t553.length co31)) (ds := []) #[false, false, false, false, false, false] (by kernel_rfl) rfl rfl ⟨(blk_cell BK540.out 0).trans rfl, (blk_cell BK540.out 1).trans rfl, (blk_cell BK556.out 0).trans rfl, (blk_cell BK556.out 1).trans rfl⟩ (fun hHeld => ?_)
      generalize w33.drew = w34 at HO550 HO555 BK540 BK541 BK556 HB hHeld ⊢
      refine take_ (i := 0) (N := some 59) (v := ?_) (a' := ?_) #[true, false, false, false, false, false] rfl rfl (by kernel_rfl) (fun _ _ _ h => h) (Or.inl ⟨by rfl, ?_⟩) hHeld ?_ ?_
      rotate_left
      ·rintro w' ⟨s0, s1, s2, s3⟩
       go_simp
       with_reducible rfl
      rotate_left
      ·simp only [Act.put, List.setIfInBounds_toArray, List.set_cons_zero, List.set_cons_succ, i64_w, i32_w]
       rfl
      refine take_ (i := 2) (N := some 61) (v := ?_) (a' := ?_) #[true, false, true, false, false, false] rfl rfl (by kernel_rfl) (fun _ _ _ h => h) (Or.inl ⟨by rfl, ?_⟩) hHeld ?_ ?_
      rotate_left
      ·rintro w' ⟨s0, s1, s2, s3⟩
       go_simp
       with_reducible rfl
      rotate_left
      ·simp only [Act.put, List.setIfInBounds_toArray, List.set_cons_zero, List.set_cons_succ, i64_w, i32_w]
       rfl
      refine one_ (i := 1) (N := some 60) #[true, true, true, false, false, false] rfl rfl (by kernel_rfl) (by decide) (fun K hK => ?_)
      refine goes_ Tryd.func43 (by kernel_rfl) rfl #[.agg #[.int .i64 a0_0, .slice (some ad546) l0_1.length c0_1]] (by rfl) rfl rfl (by (try simp only [List.map_toArray, List.map_cons, List.map_nil]); first | done | rfl | (simp only [List.length_drop, List.length_take]; rfl)) ?_
      with_reducible refine (skewbaldlaw07_kinds.calls k a0_0 _ _ l0_1 t557 _ ?side1 ?side2 ?side3 A15.out).mono ?_
      (case side1 => repeat (first | exact (Kd.C_below HR0_1.out HB.out) | (with_reducible refine Kd.C_alloc ?_ _) | (with_reducible refine Kd.C_drewN ?_ _) | (with_reducible refine Kd.C_drew ?_)))
      (case side2 => exact HC0_1.out)
      (case side3 => exact Glob.below HGL.out (by repeat (first | (with_reducible first | exact HB.out | apply below_alloc | apply pw_below_drewN | apply below_drew1 | refine below_set ?_ GE540.out | refine below_set ?_ GE541.out | refine below_set ?_ GE556.out) | exact HB.out)))
      rintro e w35 ⟨v558, rfl, ho0, hb⟩
      refine ⟨_, rfl, ?_⟩
      have n0_ := Aside0.mk (Kd.R_below (by (with_reducible repeat (first | apply Kd.R_alloc | apply Kd.R_drewN | apply Kd.R_drew)); exact HO550.out) hb)
      have n1_ := Aside0.mk (Kd.V_elder' (by (with_reducible repeat (first | apply Kd.V_alloc | apply Kd.V_drewN | apply Kd.V_drew)); exact HO555.out) (Kd.S_base ho0) hb)
      have n2_ := Aside0.mk (Kd.S_lower (Kd.S_new' ho0 (Kd.R_lt (by (with_reducible repeat (first | apply Kd.R_alloc | apply Kd.R_drewN | apply Kd.R_drew)); exact HO550.out))) (below_size (by repeat (first | (with_reducible first | exact HB.out | apply below_alloc | apply pw_below_drewN | apply below_drew1 | refine below_set ?_ GE540.out | refine below_set ?_ GE541.out | refine below_set ?_ GE556.out) | exact HB.out))))
      have n3_ := Aside0.mk (blk_below (g := gb540) (o := .cells #[.int .i64 a0_0, .slice (some ad546) l0_1.length c0_1] 24 (0, 0)) (by (with_reducible repeat (first | refine blk_drewN ?_ _ | refine blk_drew ?_ | refine blk_alloc ?_ _)); exact BK540.out) hb)
      have n4_ := Aside0.mk (blk_below (g := gb541) (o := .cells #[.int .i64 a1_0, .int .i64 a1_1, .int .i64 a1_2] 49 (0, 0)) (by (with_reducible repeat (first | refine blk_drewN ?_ _ | refine blk_drew ?_ | refine blk_alloc ?_ _)); exact BK541.out) hb)
      have n5_ := Aside0.mk (blk_below (g := gb556) (o := .cells #[.int .i64 t552, .slice Ao31 t553.length co31] 24 (0, 0)) (by (with_reducible repeat (first | refine blk_drewN ?_ _ | refine blk_drew ?_ | refine blk_alloc ?_ _)); exact BK556.out) hb)
      have n6_ := Aside0.mk (below_step (by repeat (first | (with_reducible first | exact HB.out | apply below_alloc | apply pw_below_drewN | apply below_drew1 | refine below_set ?_ GE540.out | refine below_set ?_ GE541.out | refine below_set ?_ GE556.out) | exact HB.out)) hb)
      clear HO550
      clear HO555
      clear BK540
      clear BK541
      clear BK556
      clear HB
      have HO550 := n0_
      have HO555 := n1_
      have HO559 := n2_
      have BK540 := n3_
      have BK541 := n4_
      have BK556 := n5_
      have HB := n6_
      clear n0_ n1_ n2_ n3_ n4_ n5_ n6_
      (try clear hb)
      (try clear hb2)
      (try clear hk)
      (try clear hi)
      (try clear ho0)
      refine hK.out _ _ ⟨(blk_cell BK540.out 0).trans rfl, (blk_cell BK540.out 1).trans rfl, (blk_cell BK556.out 0).trans rfl, (blk_cell BK556.out 1).trans rfl⟩ (fun hHeld => ?_)
      clear hK K
      refine norm_ (a' := ?_) ?_ ?_
      rotate_left
      ·show Act.put _ (some 60) _ = _
       simp only [Act.put, List.setIfInBounds_toArray, List.set_cons_zero, List.set_cons_succ, i64_w, i32_w]
       rfl
      refine one_ (i := 3) (N := some 62) #[true, true, true, true, false, false] rfl rfl (by kernel_rfl) (by decide) (fun K hK => ?_)
      refine goes_ Tryd.func43 (by kernel_rfl) rfl #[.agg #[.int .i64 t552, .slice Ao31 t553.length co31]] (by rfl) rfl rfl (by (try simp only [List.map_toArray, List.map_cons, List.map_nil]); first | done | rfl | (simp only [List.length_drop, List.length_take]; rfl)) ?_
      with_reducible refine (skewbaldlaw07_kinds.calls k t552 _ _ t553 t560 _ ?side1 ?side2 ?side3 A16.out).mono ?_
      (case side1 => repeat (first | exact (Kd.V_reads' HO555.out).2.2 | (with_reducible refine Kd.C_alloc ?_ _) | (with_reducible refine Kd.C_drewN ?_ _) | (with_reducible refine Kd.C_drew ?_)))
      (case side2 => exact (Kd.V_reads' HO555.out).2.1)
      (case side3 => exact Glob.below HGL.out (by repeat (first | (with_reducible first | exact HB.out | apply below_alloc | apply pw_below_drewN | apply below_drew1 | refine below_set ?_ GE540.out | refine below_set ?_ GE541.out | refine below_set ?_ GE556.out) | exact HB.out)))
      rintro e w36 ⟨v561, rfl, ho0, hb⟩
      refine ⟨_, rfl, ?_⟩
      have n0_ := Aside0.mk (Kd.R_below (by (with_reducible repeat (first | apply Kd.R_alloc | apply Kd.R_drewN | apply Kd.R_drew)); exact HO550.out) hb)
      have n1_ := Aside0.mk (Kd.V_elder' (by (with_reducible repeat (first | apply Kd.V_alloc | apply Kd.V_drewN | apply Kd.V_drew)); exact HO555.out) (Kd.S_base ho0) hb)
      have n2_ := Aside0.mk (Kd.S_elder' (by (with_reducible repeat (first | apply Kd.S_alloc | apply Kd.S_drewN | apply Kd.S_drew)); exact HO559.out) (Kd.S_base ho0) hb)
      have n3_ := Aside0.mk (Kd.S_lower (Kd.S_new' (Kd.S_new' ho0 (Kd.R_lt (by (with_reducible repeat (first | apply Kd.R_alloc | apply Kd.R_drewN | apply Kd.R_drew)); exact HO550.out))) (Kd.S_lt (by (with_reducible repeat (first | apply Kd.S_alloc | apply Kd.S_drewN | apply Kd.S_drew)); exact HO559.out))) (below_size (by repeat (first | (with_reducible first | exact HB.out | apply below_alloc | apply pw_below_drewN | apply below_drew1 | refine below_set ?_ GE540.out | refine below_set ?_ GE541.out | refine below_set ?_ GE556.out) | exact HB.out))))
      have n4_ := Aside0.mk (blk_below (g := gb540) (o := .cells #[.int .i64 a0_0, .slice (some ad546) l0_1.length c0_1] 24 (0, 0)) (by (with_reducible repeat (first | refine blk_drewN ?_ _ | refine blk_drew ?_ | refine blk_alloc ?_ _)); exact BK540.out) hb)
      have n5_ := Aside0.mk (blk_below (g := gb541) (o := .cells #[.int .i64 a1_0, .int .i64 a1_1, .int .i64 a1_2] 49 (0, 0)) (by (with_reducible repeat (first | refine blk_drewN ?_ _ | refine blk_drew ?_ | refine blk_alloc ?_ _)); exact BK541.out) hb)
      have n6_ := Aside0.mk (blk_below (g := gb556) (o := .cells #[.int .i64 t552, .slice Ao31 t553.length co31] 24 (0, 0)) (by (with_reducible repeat (first | refine blk_drewN ?_ _ | refine blk_drew ?_ | refine blk_alloc ?_ _)); exact BK556.out) hb)
      have n7_ := Aside0.mk (below_step (by repeat (first | (with_reducible first | exact HB.out | apply below_alloc | apply pw_below_drewN | apply below_drew1 | refine below_set ?_ GE540.out | refine below_set ?_ GE541.out | refine below_set ?_ GE556.out) | exact HB.out)) hb)
      clear HO550
      clear HO555
      clear HO559
      clear BK540
      clear BK541
      clear BK556
      clear HB
      have HO550 := n0_
      have HO555 := n1_
      have HO559 := n2_
      have HO562 := n3_
      have BK540 := n4_
      have BK541 := n5_
      have BK556 := n6_
      have HB := n7_
      clear n0_ n1_ n2_ n3_ n4_ n5_ n6_ n7_
      (try clear hb)
      (try clear hb2)
      (try clear hk)
      (try clear hi)
      (try clear ho0)
      refine hK.out _ _ ⟨(blk_cell BK540.out 0).trans rfl, (blk_cell BK540.out 1).trans rfl, (blk_cell BK556.out 0).trans rfl, (blk_cell BK556.out 1).trans rfl⟩ (fun hHeld => ?_)
      clear hK K
      refine norm_ (a' := ?_) ?_ ?_
      rotate_left
      ·show Act.put _ (some 62) _ = _
       simp only [Act.put, List.setIfInBounds_toArray, List.set_cons_zero, List.set_cons_succ, i64_w, i32_w]
       rfl
      refine pure_ (i := 4) (N := some 10) (v := ?_) (a' := ?_) #[true, true, true, true, true, false] rfl rfl (by kernel_rfl) (fun _ _ _ h => h) (Or.inl ⟨by rfl, ?_⟩) ?_ ?_
      rotate_left
      ·intro w'
       go_simp
       with_reducible rfl
      rotate_left
      ·simp only [Act.put, List.setIfInBounds_toArray, List.set_cons_zero, List.set_cons_succ, i64_w, i32_w]
       rfl
      refine pure_ (i := 5) (N := some 11) (v := ?_) (a' := ?_) #[true, true, true, true, true, true] rfl rfl (by kernel_rfl) (fun _ _ _ h => h) (Or.inl ⟨by rfl, ?_⟩) ?_ ?_
      rotate_left
      ·intro w'
       go_simp
       with_reducible rfl
      rotate_left
      ·simp only [Act.put, List.setIfInBounds_toArray, List.set_cons_zero, List.set_cons_succ, i64_w, i32_w]
       rfl
      refine done_ (by kernel_rfl) ?_
      go_upto_region 6 with (fail)
      go_cut [75] (fun v75 wc => ∃ (kq : Nat) (x75_16 : Bool), v75 = .bool x75_16 ∧ Aside0 (skewbaldlaw07_DappleMore.j0 kq l2 t557 t560 x75_16 a0_0 l0_1 t552 t553 = some true) ∧ Aside0 (kq ≤ k) ∧ Aside0 (Kd.S (Kd.slice 3 (Kd.int .i64)) 26 wc w.heap.size (fun k_ => some k_ ≠ (v561 : Value).ownBlock) v558 t557) ∧ Aside0 (Kd.S (Kd.slice 3 (Kd.int .i64)) 26 wc w.heap.size (fun k_ => some k_ ≠ (v558 : Value).ownBlock) v561 t560) ∧ Aside0 (Kd.V (Kd.slice 3 (Kd.int .i64)) 26 wc w.heap.size (fun k_ => some k_ ≠ (v558 : Value).ownBlock ∧ some k_ ≠ (v561 : Value).ownBlock ∧ k_ ≠ gb540 ∧ k_ ≠ gb541 ∧ k_ ≠ gb556) (.slice Ao31 t553.length co31) t553) ∧ Aside0 (wc.heap[gb540]? = some (.cells #[.int .i64 a0_0, (.slice (some ad546) l0_1.length c0_1)] 24 (0, 0))) ∧ Aside0 (wc.heap[gb541]? = some (.cells #[.int .i64 a1_0, .int .i64 a1_1, .int .i64 a1_2] 49 (0, 0))) ∧ Aside0 (wc.heap[gb556]? = some (.cells #[.int .i64 t552, (.slice Ao31 t553.length co31)] 24 (0, 0))) ∧ Aside0 (Below w.heap.size w wc))
      case first =>
       have H := HC17.out
       clear HC17
       by_cases c37 : (t557.length : Int) = (l0_1.length : Int)
       ·rw [if_pos c37] at H
        have c37b0 : ((t557.length : Int) == (l0_1.length : Int)) = true := beq_iff_eq.mpr c37
        have c37b1 : ((t557.length : Int) != (l0_1.length : Int)) = false := bne_eq_false_iff_eq.mpr c37
        have c37b2 : (t557.length == l0_1.length) = true := by first | simpa using c37 | (simp at c37 ⊢; omega)
        clear c37
        (first | rw [c37b0] | (simp only [i64_w, i32_w]; rw [c37b0]) | skip)
        have H' := Aside0.mk H
        clear H
        obtain ⟨Ao38, co38, eo38⟩ := Kd.S_slice HO559.out
        subst eo38
        have hnb39 := NB540_541.out
        have hnc39 := NB541_540.out
        have hnb40 := NB540_556.out
        have hnc40 := NB556_540.out
        have hcz41_0 : w36.cell? ⟨gb540, 0, none⟩ = some (.int .i64 a0_0) := (blk_cell BK540.out 0).trans rfl
        have hcz41_1 : w36.cell? ⟨gb540, 1, none⟩ = some (.slice (some ad546) l0_1.length c0_1) := (blk_cell BK540.out 1).trans rfl
        have hfz41_0 := blk_frozen BK540.out 0
        have hfz41_1 := blk_frozen BK540.out 1
        obtain ⟨Ao42, co42, eo42⟩ := Kd.S_slice HO562.out
        subst eo42
        go_wp2
        go_meet
        case rel => exact ⟨_, (((t560.length : Int) != (t557.length : Int))), (by first | rfl | (simp; done) | (simp [*]; done)), H', ⟨by first | omega | exact Nat.le_refl _⟩, ⟨by (with_reducible repeat (first | apply Kd.S_alloc | apply Kd.S_drewN | apply Kd.S_drew)); exact Kd.S_mono HO559.out (fun _ hk => hk.2)⟩, ⟨by (with_reducible repeat (first | apply Kd.S_alloc | apply Kd.S_drewN | apply Kd.S_drew)); exact Kd.S_mono HO562.out (fun _ hk => hk.2)⟩, ⟨by (with_reducible repeat (first | apply Kd.V_alloc | apply Kd.V_drewN | apply Kd.V_drew)); exact Kd.V_mono HO555.out (fun _ hk => ⟨hk.1.2, ⟨hk.2, ⟨hk.1.1.2.1, ⟨hk.1.1.2.2.1, hk.1.1.2.2.2⟩⟩⟩⟩)⟩, ⟨by (with_reducible repeat (first | refine blk_drewN ?_ _ | refine blk_drew ?_ | refine blk_alloc ?_ _)); exact BK540.out⟩, ⟨by (with_reducible repeat (first | refine blk_drewN ?_ _ | refine blk_drew ?_ | refine blk_alloc ?_ _)); exact BK541.out⟩, ⟨by (with_reducible repeat (first | refine blk_drewN ?_ _ | refine blk_drew ?_ | refine blk_alloc ?_ _)); exact BK556.out⟩, ⟨by repeat (first | (with_reducible first | exact HB.out | apply below_alloc | apply pw_below_drewN | apply below_drew1 | refine below_set ?_ GE540.out | refine below_set ?_ GE541.out | refine below_set ?_ GE556.out) | exact HB.out)⟩⟩
       ·rw [if_neg c37] at H
        have c37b0 : ((t557.length : Int) == (l0_1.length : Int)) = false := beq_eq_false_iff_ne.mpr c37
        have c37b1 : ((t557.length : Int) != (l0_1.length : Int)) = true := bne_iff_ne.mpr c37
        have c37b2 : (t557.length == l0_1.length) = false := by first | simpa using c37 | (simp at c37 ⊢; omega)
        (first | rw [c37b0] | (simp only [i64_w, i32_w]; rw [c37b0]) | skip)
        exact absurd H (by rcases k with _ | k <;> (first | (simp [skewbaldlaw07_DappleMore.j0]; done) | (rcases k with _ | k <;> simp [skewbaldlaw07_DappleMore.j0])))
      case rest =>
       clear HC17
       try clear p2
       try clear c3
       try clear c4
       try clear c5
       try clear c37
       try clear c37b0
       try clear c37b1
       try clear c37b2
       try clear c38
       try clear c39
       try clear c40
       try clear hcz41_0
       try clear hcz41_1
       try clear hfz41_0
       try clear hfz41_1
       obtain ⟨kq, x75_16, rfl, HA, HJ16, HO_10, HO_11, HO_557001, BK540, BK541, BK556, HB⟩ := hcut
       cases kq with
       | zero => exact absurd HA.out (by simp [skewbaldlaw07_DappleMore.j0])
       | succ kj16 =>
        have H := HA.out
        clear HA
        simp only [skewbaldlaw07_DappleMore.j0] at H
        by_cases c43 : x75_16 = true
        ·subst c43
         have H1 : (some false) = some true := by rw [if_pos rfl] at H; exact H
         clear H
         have H := H1
         clear H1
         exact absurd H (by simp)
        ·replace c43 := Bool.eq_false_iff.mpr c43
         subst c43
         have H1 : (skewbaldlaw07_DappleMore.l0 kj16 l2 t557 t560 0 a0_0 l0_1 t552 t553) = some true := by rw [if_neg (show ¬ (false = true) by decide)] at H; exact H
         clear H
         have H := H1
         clear H1
         have H' := Aside0.mk H
         clear H
         go_wp2
         go_loopg [12] kj16 (fun kq v12 w' => ∃ (x12_2 : Int), v12 = .int .i64 x12_2 ∧ Aside0 (skewbaldlaw07_DappleMore.l0 kq l2 t557 t560 x12_2 a0_0 l0_1 t552 t553 = some true) ∧ Aside0 (kq ≤ kj16) ∧ Aside0 (Kd.S (Kd.slice 3 (Kd.int .i64)) 26 w' w.heap.size (fun k_ => some k_ ≠ (v561 : Value).ownBlock) v558 t557) ∧ Aside0 (Kd.S (Kd.slice 3 (Kd.int .i64)) 26 w' w.heap.size (fun k_ => some k_ ≠ (v558 : Value).ownBlock) v561 t560) ∧ Aside0 (Kd.V (Kd.slice 3 (Kd.int .i64)) 26 w' w.heap.size (fun k_ => some k_ ≠ (v558 : Value).ownBlock ∧ some k_ ≠ (v561 : Value).ownBlock ∧ k_ ≠ gb540 ∧ k_ ≠ gb541 ∧ k_ ≠ gb556) (.slice Ao31 t553.length co31) t553) ∧ Aside0 (w'.heap[gb540]? = some (.cells #[.int .i64 a0_0, (.slice (some ad546) l0_1.length c0_1)] 24 (0, 0))) ∧ Aside0 (w'.heap[gb541]? = some (.cells #[.int .i64 a1_0, .int .i64 a1_1, .int .i64 a1_2] 49 (0, 0))) ∧ Aside0 (w'.heap[gb556]? = some (.cells #[.int .i64 t552, (.slice Ao31 t553.length co31)] 24 (0, 0))) ∧ Aside0 (Below w.heap.size w w'))
         case atStart => exact ⟨(0), (by first | rfl | (simp; done) | (simp [*]; done)), H', ⟨Nat.le_refl _⟩, ⟨by (with_reducible repeat (first | apply Kd.S_alloc | apply Kd.S_drewN | apply Kd.S_drew)); exact HO_10.out⟩, ⟨by (with_reducible repeat (first | apply Kd.S_alloc | apply Kd.S_drewN | apply Kd.S_drew)); exact HO_11.out⟩, ⟨by (with_reducible repeat (first | apply Kd.V_alloc | apply Kd.V_drewN | apply Kd.V_drew)); exact HO_557001.out⟩, ⟨by (with_reducible repeat (first | refine blk_drewN ?_ _ | refine blk_drew ?_ | refine blk_alloc ?_ _)); exact BK540.out⟩, ⟨by (with_reducible repeat (first | refine blk_drewN ?_ _ | refine blk_drew ?_ | refine blk_alloc ?_ _)); exact BK541.out⟩, ⟨by (with_reducible repeat (first | refine blk_drewN ?_ _ | refine blk_drew ?_ | refine blk_alloc ?_ _)); exact BK556.out⟩, ⟨by repeat (first | (with_reducible first | exact HB.out | apply below_alloc | apply pw_below_drewN | apply below_drew1 | refine below_set ?_ GE540.out | refine below_set ?_ GE541.out | refine below_set ?_ GE556.out) | exact HB.out)⟩⟩
         case round =>
          clear H'
          try clear p2
          try clear c3
          try clear c4
          try clear c5
          try clear c37
          try clear c37b0
          try clear c37b1
          try clear c37b2
          try clear c38
          try clear c39
          try clear c40
          try clear c43
          try clear hcz41_0
          try clear hcz41_1
          try clear hfz41_0
          try clear hfz41_1
          try clear p2
          obtain ⟨x12_2, rfl, HA, HK2, HO_10, HO_11, HO_557001, BK540, BK541, BK556, HB⟩ := hrel
          cases gk with
          | zero => exact absurd HA.out (by simp [skewbaldlaw07_DappleMore.l0])
          | succ k2 =>
           have H := HA.out
           clear HA
           simp only [skewbaldlaw07_DappleMore.l0] at H
           by_cases c44 : x12_2 < (t557.length : Int)
           ·rw [if_pos c44] at H
            have c44b0 : decide (x12_2 < (t557.length : Int)) = true := decide_eq_true c44
            clear c44
            have H' := Aside0.mk H
            clear H
            obtain ⟨Ao45, co45, eo45⟩ := Kd.S_slice HO_10.out
            subst eo45
            go_wp2
            go_loopg [13] k2 (fun kq v13 w' => ∃ (x13_3 : Int), v13 = .int .i64 x13_3 ∧ Aside0 (skewbaldlaw07_DappleMore.l1 kq l2 t557 t560 x12_2 x13_3 a0_0 l0_1 t552 t553 = some true) ∧ Aside0 (kq ≤ k2) ∧ Aside0 (Kd.S (Kd.slice 3 (Kd.int .i64)) 26 w' w.heap.size (fun k_ => some k_ ≠ (v561 : Value).ownBlock) (.slice Ao45 t557.length co45) t557) ∧ Aside0 (Kd.S (Kd.slice 3 (Kd.int .i64)) 26 w' w.heap.size (fun k_ => some k_ ≠ ((.slice Ao45 t557.length co45) : Value).ownBlock) v561 t560) ∧ Aside0 (Kd.V (Kd.slice 3 (Kd.int .i64)) 26 w' w.heap.size (fun k_ => some k_ ≠ ((.slice Ao45 t557.length co45) : Value).ownBlock ∧ some k_ ≠ (v561 : Value).ownBlock ∧ k_ ≠ gb540 ∧ k_ ≠ gb541 ∧ k_ ≠ gb556) (.slice Ao31 t553.length co31) t553) ∧ Aside0 (w'.heap[gb540]? = some (.cells #[.int .i64 a0_0, (.slice (some ad546) l0_1.length c0_1)] 24 (0, 0))) ∧ Aside0 (w'.heap[gb541]? = some (.cells #[.int .i64 a1_0, .int .i64 a1_1, .int .i64 a1_2] 49 (0, 0))) ∧ Aside0 (w'.heap[gb556]? = some (.cells #[.int .i64 t552, (.slice Ao31 t553.length co31)] 24 (0, 0))) ∧ Aside0 (Below w.heap.size w w'))
            case atStart => exact ⟨(0), (by first | rfl | (simp; done) | (simp [*]; done)), H', ⟨Nat.le_refl _⟩, ⟨by (with_reducible repeat (first | apply Kd.S_alloc | apply Kd.S_drewN | apply Kd.S_drew)); exact HO_10.out⟩, ⟨by (with_reducible repeat (first | apply Kd.S_alloc | apply Kd.S_drewN | apply Kd.S_drew)); exact HO_11.out⟩, ⟨by (with_reducible repeat (first | apply Kd.V_alloc | apply Kd.V_drewN | apply Kd.V_drew)); exact HO_557001.out⟩, ⟨by (with_reducible repeat (first | refine blk_drewN ?_ _ | refine blk_drew ?_ | refine blk_alloc ?_ _)); exact BK540.out⟩, ⟨by (with_reducible repeat (first | refine blk_drewN ?_ _ | refine blk_drew ?_ | refine blk_alloc ?_ _)); exact BK541.out⟩, ⟨by (with_reducible repeat (first | refine blk_drewN ?_ _ | refine blk_drew ?_ | refine blk_alloc ?_ _)); exact BK556.out⟩, ⟨by repeat (first | (with_reducible first | exact HB.out | apply below_alloc | apply pw_below_drewN | apply below_drew1 | refine below_set ?_ GE540.out | refine below_set ?_ GE541.out | refine below_set ?_ GE556.out) | exact HB.out)⟩⟩
            case round =>
             clear H'
             try clear p2
             try clear c3
             try clear c4
             try clear c5
             try clear c37
             try clear c37b0
             try clear c37b1
             try clear c37b2
             try clear c38
             try clear c39
             try clear c40
             try clear c43
             try clear c44
             try clear c44b0
             try clear hcz41_0
             try clear hcz41_1
             try clear hfz41_0
             try clear hfz41_1
             try clear p2
             obtain ⟨x13_3, rfl, HA, HK3, HO_10, HO_11, HO_557001, BK540, BK541, BK556, HB⟩ := hrel
             cases gk with
             | zero => exact absurd HA.out (by simp [skewbaldlaw07_DappleMore.l1])
             | succ k3 =>
              have H := HA.out
              clear HA
              simp only [skewbaldlaw07_DappleMore.l1] at H
              by_cases c46 : x13_3 < (t557.length : Int)
              ·rw [if_pos c46] at H
               have c46b0 : decide (x13_3 < (t557.length : Int)) = true := decide_eq_true c46
               clear c46
               by_cases c47 : 0 ≤ x12_2
               ·rw [if_pos c47] at H
                have c47b0 : decide (0 ≤ x12_2) = true := decide_eq_true c47
                clear c47
                by_cases c48 : x12_2 < (t557.length : Int)
                ·rw [if_pos c48] at H
                 have c48b0 : decide (x12_2 < (t557.length : Int)) = true := decide_eq_true c48
                 clear c48
                 by_cases c49 : 0 ≤ x13_3
                 ·rw [if_pos c49] at H
                  have c49b0 : decide (0 ≤ x13_3) = true := decide_eq_true c49
                  clear c49
                  by_cases c50 : x13_3 < ((rd_L1 t557 x12_2).length : Int)
                  ·rw [if_pos c50] at H
                   have c50b0 : decide (x13_3 < ((rd_L1 t557 x12_2).length : Int)) = true := decide_eq_true c50
                   clear c50
                   by_cases c51 : (rd (rd_L1 t557 x12_2) x13_3) = 0
                   ·rw [if_pos c51] at H
                    have c51b0 : ((rd (rd_L1 t557 x12_2) x13_3) == 0) = true := beq_iff_eq.mpr c51
                    have c51b1 : ((rd (rd_L1 t557 x12_2) x13_3) != 0) = false := bne_eq_false_iff_eq.mpr c51
                    clear c51
                    by_cases c52 : x12_2 < (t560.length : Int)
                    ·rw [if_pos c52] at H
                     have c52b0 : decide (x12_2 < (t560.length : Int)) = true := decide_eq_true c52
                     clear c52
                     by_cases c53 : x13_3 < ((rd_L1 t560 x12_2).length : Int)
                     ·rw [if_pos c53] at H
                      have c53b0 : decide (x13_3 < ((rd_L1 t560 x12_2).length : Int)) = true := decide_eq_true c53
                      clear c53
                      by_cases c54 : (rd (rd_L1 t560 x12_2) x13_3) > 0
                      ·rw [if_pos c54] at H
                       have c54b0 : decide (0 < (rd (rd_L1 t560 x12_2) x13_3)) = true := decide_eq_true c54
                       clear c54
                       exact absurd H (by simp)
                      ·rw [if_neg c54] at H
                       have c54b0 : decide (0 < (rd (rd_L1 t560 x12_2) x13_3)) = false := decide_eq_false c54
                       clear c54
                       by_cases c55 : (rd (rd_L1 t557 x12_2) x13_3) = 2
                       ·rw [if_pos c55] at H
                        have c55b0 : ((rd (rd_L1 t557 x12_2) x13_3) == 2) = true := beq_iff_eq.mpr c55
                        have c55b1 : ((rd (rd_L1 t557 x12_2) x13_3) != 2) = false := bne_eq_false_iff_eq.mpr c55
                        clear c55
                        by_cases c56 : (rd (rd_L1 t560 x12_2) x13_3) = 2
                        ·rw [if_pos c56] at H
                         have c56b0 : ((rd (rd_L1 t560 x12_2) x13_3) == 2) = true := beq_iff_eq.mpr c56
                         have c56b1 : ((rd (rd_L1 t560 x12_2) x13_3) != 2) = false := bne_eq_false_iff_eq.mpr c56
                         clear c56
                         have H' := Aside0.mk H
                         clear H
                         have p563 : 0 ≤ (x12_2 : Int) := of_decide_eq_true (by first | (with_reducible assumption) | assumption)
                         have q563 : x12_2 < (t557.length : Int) := of_decide_eq_true (by first | (with_reducible assumption) | assumption)
                         obtain ⟨ad563, A563_0, c563_0, e563, hx563_0, hl563_0, hi563_0⟩ := at_L1 (Kd.S_reads' HO_10.out).2.2 x12_2 p563 q563
                         cases e563
                         obtain ⟨ce563, hce563, hMe563, hcc563⟩ := Kd.S_get HO_10.out [] x12_2 p563 (by first | exact q563 | exact of_decide_eq_true (by first | (with_reducible assumption) | assumption) | (have e_ := (Kd.S_reads' HO_10.out).1; omega))
                         obtain ⟨ve563_0, rfl, ge563_0⟩ := hMe563
                         have hv563_0 := hcc563 0 _ rfl
                         rw [Nat.add_zero, show ((Kd.slice 3 (Kd.int .i64))).sz = 1 from rfl, Nat.mul_one] at hv563_0
                         replace hv563_0 := Option.some.inj (hv563_0.symm.trans hx563_0)
                         rw [hv563_0] at ge563_0
                         have HL563_0 := Aside0.mk (show Kd.R (Kd.int .i64) 3 _ _ _ _ (rd_L1 t557 x12_2) from ge563_0)
                         clear hv563_0 ge563_0
                         clear hcc563 hce563
                         have HR563_0 := Aside0.mk hi563_0
                         have HC563_0 := Aside0.mk hl563_0
                         clear hi563_0 hl563_0
                         replace p563 := eq_true p563
                         replace q563 := eq_true q563
                         have p564 : 0 ≤ (x13_3 : Int) := of_decide_eq_true (by first | (with_reducible assumption) | assumption)
                         have q564 : x13_3 < ((rd_L1 t557 x12_2).length : Int) := of_decide_eq_true (by first | (with_reducible assumption) | assumption)
                         obtain ⟨ad564, e564, hx564_0⟩ := Kd.at_int (by repeat (first | (with_reducible exact HR563_0.out) | (with_reducible refine Kd.C_alloc ?_ _) | (with_reducible refine Kd.C_drewN ?_ _) | (with_reducible refine Kd.C_drew ?_) | exact HR563_0.out)) x13_3 p564 q564
                         cases e564
                         replace p564 := eq_true p564
                         replace q564 := eq_true q564
                         obtain ⟨Ao57, co57, eo57⟩ := Kd.S_slice HO_11.out
                         subst eo57
                         have p565 : 0 ≤ (x12_2 : Int) := of_decide_eq_true (by first | (with_reducible assumption) | assumption)
                         have q565 : x12_2 < (t560.length : Int) := of_decide_eq_true (by first | (with_reducible assumption) | assumption)
                         obtain ⟨ad565, A565_0, c565_0, e565, hx565_0, hl565_0, hi565_0⟩ := at_L1 (Kd.S_reads' HO_11.out).2.2 x12_2 p565 q565
                         cases e565
                         obtain ⟨ce565, hce565, hMe565, hcc565⟩ := Kd.S_get HO_11.out [] x12_2 p565 (by first | exact q565 | exact of_decide_eq_true (by first | (with_reducible assumption) | assumption) | (have e_ := (Kd.S_reads' HO_11.out).1; omega))
                         obtain ⟨ve565_0, rfl, ge565_0⟩ := hMe565
                         have hv565_0 := hcc565 0 _ rfl
                         rw [Nat.add_zero, show ((Kd.slice 3 (Kd.int .i64))).sz = 1 from rfl, Nat.mul_one] at hv565_0
                         replace hv565_0 := Option.some.inj (hv565_0.symm.trans hx565_0)
                         rw [hv565_0] at ge565_0
                         have HL565_0 := Aside0.mk (show Kd.R (Kd.int .i64) 3 _ _ _ _ (rd_L1 t560 x12_2) from ge565_0)
                         clear hv565_0 ge565_0
                         clear hcc565 hce565
                         have HR565_0 := Aside0.mk hi565_0
                         have HC565_0 := Aside0.mk hl565_0
                         clear hi565_0 hl565_0
                         replace p565 := eq_true p565
                         replace q565 := eq_true q565
                         have p566 : 0 ≤ (x13_3 : Int) := of_decide_eq_true (by first | (with_reducible assumption) | assumption)
                         have q566 : x13_3 < ((rd_L1 t560 x12_2).length : Int) := of_decide_eq_true (by first | (with_reducible assumption) | assumption)
                         obtain ⟨ad566, e566, hx566_0⟩ := Kd.at_int (by repeat (first | (with_reducible exact HR565_0.out) | (with_reducible refine Kd.C_alloc ?_ _) | (with_reducible refine Kd.C_drewN ?_ _) | (with_reducible refine Kd.C_drew ?_) | exact HR565_0.out)) x13_3 p566 q566
                         cases e566
                         replace p566 := eq_true p566
                         replace q566 := eq_true q566
                         have p567 : 0 ≤ (x12_2 : Int) := of_decide_eq_true (by first | (with_reducible assumption) | assumption)
                         have q567 : x12_2 < (t557.length : Int) := of_decide_eq_true (by first | (with_reducible assumption) | assumption)
                         obtain ⟨ad567, A567_0, c567_0, e567, hx567_0, hl567_0, hi567_0⟩ := at_L1 (Kd.S_reads' HO_10.out).2.2 x12_2 p567 q567
                         obtain rfl : ad563 = ad567 := (by injection e567)
                         obtain ⟨ce567, hce567, hMe567, hcc567⟩ := Kd.S_get HO_10.out [] x12_2 p567 (by first | exact q567 | exact of_decide_eq_true (by first | (with_reducible assumption) | assumption) | (have e_ := (Kd.S_reads' HO_10.out).1; omega))
                         obtain ⟨ve567_0, rfl, ge567_0⟩ := hMe567
                         have hv567_0 := hcc567 0 _ rfl
                         rw [Nat.add_zero, show ((Kd.slice 3 (Kd.int .i64))).sz = 1 from rfl, Nat.mul_one] at hv567_0
                         replace hv567_0 := Option.some.inj (hv567_0.symm.trans hx567_0)
                         rw [hv567_0] at ge567_0
                         have HL567_0 := Aside0.mk (show Kd.R (Kd.int .i64) 3 _ _ _ _ (rd_L1 t557 x12_2) from ge567_0)
                         clear hv567_0 ge567_0
                         clear hcc567 hce567
                         have HR567_0 := Aside0.mk hi567_0
                         have HC567_0 := Aside0.mk hl567_0
                         clear hi567_0 hl567_0
                         replace p567 := eq_true p567
                         replace q567 := eq_true q567
                         have ea_ := Option.some.inj (hx563_0.symm.trans hx567_0)
                         injection ea_ with ea_ en_ ec_
                         subst ea_
                         subst ec_
                         clear en_
                         have p568 : 0 ≤ (x13_3 : Int) := of_decide_eq_true (by first | (with_reducible assumption) | assumption)
                         have q568 : x13_3 < ((rd_L1 t557 x12_2).length : Int) := of_decide_eq_true (by first | (with_reducible assumption) | assumption)
                         obtain ⟨ad568, e568, hx568_0⟩ := Kd.at_int (by repeat (first | (with_reducible exact HR567_0.out) | (with_reducible refine Kd.C_alloc ?_ _) | (with_reducible refine Kd.C_drewN ?_ _) | (with_reducible refine Kd.C_drew ?_) | exact HR567_0.out)) x13_3 p568 q568
                         cases e568
                         replace p568 := eq_true p568
                         replace q568 := eq_true q568
                         have p569 : 0 ≤ (x12_2 : Int) := of_decide_eq_true (by first | (with_reducible assumption) | assumption)
                         have q569 : x12_2 < (t560.length : Int) := of_decide_eq_true (by first | (with_reducible assumption) | assumption)
                         obtain ⟨ad569, A569_0, c569_0, e569, hx569_0, hl569_0, hi569_0⟩ := at_L1 (Kd.S_reads' HO_11.out).2.2 x12_2 p569 q569
                         obtain rfl : ad565 = ad569 := (by injection e569)
                         obtain ⟨ce569, hce569, hMe569, hcc569⟩ := Kd.S_get HO_11.out [] x12_2 p569 (by first | exact q569 | exact of_decide_eq_true (by first | (with_reducible assumption) | assumption) | (have e_ := (Kd.S_reads' HO_11.out).1; omega))
                         obtain ⟨ve569_0, rfl, ge569_0⟩ := hMe569
                         have hv569_0 := hcc569 0 _ rfl
                         rw [Nat.add_zero, show ((Kd.slice 3 (Kd.int .i64))).sz = 1 from rfl, Nat.mul_one] at hv569_0
                         replace hv569_0 := Option.some.inj (hv569_0.symm.trans hx569_0)
                         rw [hv569_0] at ge569_0
                         have HL569_0 := Aside0.mk (show Kd.R (Kd.int .i64) 3 _ _ _ _ (rd_L1 t560 x12_2) from ge569_0)
                         clear hv569_0 ge569_0
                         clear hcc569 hce569
                         have HR569_0 := Aside0.mk hi569_0
                         have HC569_0 := Aside0.mk hl569_0
                         clear hi569_0 hl569_0
                         replace p569 := eq_true p569
                         replace q569 := eq_true q569
                         have ea_ := Option.some.inj (hx565_0.symm.trans hx569_0)
                         injection ea_ with ea_ en_ ec_
                         subst ea_
                         subst ec_
                         clear en_
                         have p570 : 0 ≤ (x13_3 : Int) := of_decide_eq_true (by first | (with_reducible assumption) | assumption)
                         have q570 : x13_3 < ((rd_L1 t560 x12_2).length : Int) := of_decide_eq_true (by first | (with_reducible assumption) | assumption)
                         obtain ⟨ad570, e570, hx570_0⟩ := Kd.at_int (by repeat (first | (with_reducible exact HR569_0.out) | (with_reducible refine Kd.C_alloc ?_ _) | (with_reducible refine Kd.C_drewN ?_ _) | (with_reducible refine Kd.C_drew ?_) | exact HR569_0.out)) x13_3 p570 q570
                         cases e570
                         replace p570 := eq_true p570
                         replace q570 := eq_true q570
                         go_wp2
                         go_roundg k3
                         case measure => have := HJ16.out; have := HK2.out; have := HK3.out; omega
                         case rel => exact ⟨(wrap64 (x13_3 + 1)), (by first | rfl | (simp; done) | (simp [*]; done)), H', ⟨by have := HJ16.out; have := HK2.out; have := HK3.out; omega⟩, ⟨by (with_reducible repeat (first | apply Kd.S_alloc | apply Kd.S_drewN | apply Kd.S_drew)); exact HO_10.out⟩, ⟨by (with_reducible repeat (first | apply Kd.S_alloc | apply Kd.S_drewN | apply Kd.S_drew)); exact HO_11.out⟩, ⟨by (with_reducible repeat (first | apply Kd.V_alloc | apply Kd.V_drewN | apply Kd.V_drew)); exact HO_557001.out⟩, ⟨by (with_reducible repeat (first | refine blk_drewN ?_ _ | refine blk_drew ?_ | refine blk_alloc ?_ _)); exact BK540.out⟩, ⟨by (with_reducible repeat (first | refine blk_drewN ?_ _ | refine blk_drew ?_ | refine blk_alloc ?_ _)); exact BK541.out⟩, ⟨by (with_reducible repeat (first | refine blk_drewN ?_ _ | refine blk_drew ?_ | refine blk_alloc ?_ _)); exact BK556.out⟩, ⟨by repeat (first | (with_reducible first | exact HB.out | apply below_alloc | apply pw_below_drewN | apply below_drew1 | refine below_set ?_ GE540.out | refine below_set ?_ GE541.out | refine below_set ?_ GE556.out) | exact HB.out)⟩⟩
                        ·rw [if_neg c56] at H
                         have c56b0 : ((rd (rd_L1 t560 x12_2) x13_3) == 2) = false := beq_eq_false_iff_ne.mpr c56
                         have c56b1 : ((rd (rd_L1 t560 x12_2) x13_3) != 2) = true := bne_iff_ne.mpr c56
                         exact absurd H (by simp)
                       ·rw [if_neg c55] at H
                        have c55b0 : ((rd (rd_L1 t557 x12_2) x13_3) == 2) = false := beq_eq_false_iff_ne.mpr c55
                        have c55b1 : ((rd (rd_L1 t557 x12_2) x13_3) != 2) = true := bne_iff_ne.mpr c55
                        have H' := Aside0.mk H
                        clear H
                        have p563 : 0 ≤ (x12_2 : Int) := of_decide_eq_true (by first | (with_reducible assumption) | assumption)
                        have q563 : x12_2 < (t557.length : Int) := of_decide_eq_true (by first | (with_reducible assumption) | assumption)
                        obtain ⟨ad563, A563_0, c563_0, e563, hx563_0, hl563_0, hi563_0⟩ := at_L1 (Kd.S_reads' HO_10.out).2.2 x12_2 p563 q563
                        cases e563
                        obtain ⟨ce563, hce563, hMe563, hcc563⟩ := Kd.S_get HO_10.out [] x12_2 p563 (by first | exact q563 | exact of_decide_eq_true (by first | (with_reducible assumption) | assumption) | (have e_ := (Kd.S_reads' HO_10.out).1; omega))
                        obtain ⟨ve563_0, rfl, ge563_0⟩ := hMe563
                        have hv563_0 := hcc563 0 _ rfl
                        rw [Nat.add_zero, show ((Kd.slice 3 (Kd.int .i64))).sz = 1 from rfl, Nat.mul_one] at hv563_0
                        replace hv563_0 := Option.some.inj (hv563_0.symm.trans hx563_0)
                        rw [hv563_0] at ge563_0
                        have HL563_0 := Aside0.mk (show Kd.R (Kd.int .i64) 3 _ _ _ _ (rd_L1 t557 x12_2) from ge563_0)
                        clear hv563_0 ge563_0
                        clear hcc563 hce563
                        have HR563_0 := Aside0.mk hi563_0
                        have HC563_0 := Aside0.mk hl563_0
                        clear hi563_0 hl563_0
                        replace p563 := eq_true p563
                        replace q563 := eq_true q563
                        have p564 : 0 ≤ (x13_3 : Int) := of_decide_eq_true (by first | (with_reducible assumption) | assumption)
                        have q564 : x13_3 < ((rd_L1 t557 x12_2).length : Int) := of_decide_eq_true (by first | (with_reducible assumption) | assumption)
                        obtain ⟨ad564, e564, hx564_0⟩ := Kd.at_int (by repeat (first | (with_reducible exact HR563_0.out) | (with_reducible refine Kd.C_alloc ?_ _) | (with_reducible refine Kd.C_drewN ?_ _) | (with_reducible refine Kd.C_drew ?_) | exact HR563_0.out)) x13_3 p564 q564
                        cases e564
                        replace p564 := eq_true p564
                        replace q564 := eq_true q564
                        obtain ⟨Ao58, co58, eo58⟩ := Kd.S_slice HO_11.out
                        subst eo58
                        have p565 : 0 ≤ (x12_2 : Int) := of_decide_eq_true (by first | (with_reducible assumption) | assumption)
                        have q565 : x12_2 < (t560.length : Int) := of_decide_eq_true (by first | (with_reducible assumption) | assumption)
                        obtain ⟨ad565, A565_0, c565_0, e565, hx565_0, hl565_0, hi565_0⟩ := at_L1 (Kd.S_reads' HO_11.out).2.2 x12_2 p565 q565
                        cases e565
                        obtain ⟨ce565, hce565, hMe565, hcc565⟩ := Kd.S_get HO_11.out [] x12_2 p565 (by first | exact q565 | exact of_decide_eq_true (by first | (with_reducible assumption) | assumption) | (have e_ := (Kd.S_reads' HO_11.out).1; omega))
                        obtain ⟨ve565_0, rfl, ge565_0⟩ := hMe565
                        have hv565_0 := hcc565 0 _ rfl
                        rw [Nat.add_zero, show ((Kd.slice 3 (Kd.int .i64))).sz = 1 from rfl, Nat.mul_one] at hv565_0
                        replace hv565_0 := Option.some.inj (hv565_0.symm.trans hx565_0)
                        rw [hv565_0] at ge565_0
                        have HL565_0 := Aside0.mk (show Kd.R (Kd.int .i64) 3 _ _ _ _ (rd_L1 t560 x12_2) from ge565_0)
                        clear hv565_0 ge565_0
                        clear hcc565 hce565
                        have HR565_0 := Aside0.mk hi565_0
                        have HC565_0 := Aside0.mk hl565_0
                        clear hi565_0 hl565_0
                        replace p565 := eq_true p565
                        replace q565 := eq_true q565
                        have p566 : 0 ≤ (x13_3 : Int) := of_decide_eq_true (by first | (with_reducible assumption) | assumption)
                        have q566 : x13_3 < ((rd_L1 t560 x12_2).length : Int) := of_decide_eq_true (by first | (with_reducible assumption) | assumption)
                        obtain ⟨ad566, e566, hx566_0⟩ := Kd.at_int (by repeat (first | (with_reducible exact HR565_0.out) | (with_reducible refine Kd.C_alloc ?_ _) | (with_reducible refine Kd.C_drewN ?_ _) | (with_reducible refine Kd.C_drew ?_) | exact HR565_0.out)) x13_3 p566 q566
                        cases e566
                        replace p566 := eq_true p566
                        replace q566 := eq_true q566
                        have p567 : 0 ≤ (x12_2 : Int) := of_decide_eq_true (by first | (with_reducible assumption) | assumption)
                        have q567 : x12_2 < (t557.length : Int) := of_decide_eq_true (by first | (with_reducible assumption) | assumption)
                        obtain ⟨ad567, A567_0, c567_0, e567, hx567_0, hl567_0, hi567_0⟩ := at_L1 (Kd.S_reads' HO_10.out).2.2 x12_2 p567 q567
                        obtain rfl : ad563 = ad567 := (by injection e567)
                        obtain ⟨ce567, hce567, hMe567, hcc567⟩ := Kd.S_get HO_10.out [] x12_2 p567 (by first | exact q567 | exact of_decide_eq_true (by first | (with_reducible assumption) | assumption) | (have e_ := (Kd.S_reads' HO_10.out).1; omega))
                        obtain ⟨ve567_0, rfl, ge567_0⟩ := hMe567
                        have hv567_0 := hcc567 0 _ rfl
                        rw [Nat.add_zero, show ((Kd.slice 3 (Kd.int .i64))).sz = 1 from rfl, Nat.mul_one] at hv567_0
                        replace hv567_0 := Option.some.inj (hv567_0.symm.trans hx567_0)
                        rw [hv567_0] at ge567_0
                        have HL567_0 := Aside0.mk (show Kd.R (Kd.int .i64) 3 _ _ _ _ (rd_L1 t557 x12_2) from ge567_0)
                        clear hv567_0 ge567_0
                        clear hcc567 hce567
                        have HR567_0 := Aside0.mk hi567_0
                        have HC567_0 := Aside0.mk hl567_0
                        clear hi567_0 hl567_0
                        replace p567 := eq_true p567
                        replace q567 := eq_true q567
                        have ea_ := Option.some.inj (hx563_0.symm.trans hx567_0)
                        injection ea_ with ea_ en_ ec_
                        subst ea_
                        subst ec_
                        clear en_
                        have p568 : 0 ≤ (x13_3 : Int) := of_decide_eq_true (by first | (with_reducible assumption) | assumption)
                        have q568 : x13_3 < ((rd_L1 t557 x12_2).length : Int) := of_decide_eq_true (by first | (with_reducible assumption) | assumption)
                        obtain ⟨ad568, e568, hx568_0⟩ := Kd.at_int (by repeat (first | (with_reducible exact HR567_0.out) | (with_reducible refine Kd.C_alloc ?_ _) | (with_reducible refine Kd.C_drewN ?_ _) | (with_reducible refine Kd.C_drew ?_) | exact HR567_0.out)) x13_3 p568 q568
                        cases e568
                        replace p568 := eq_true p568
                        replace q568 := eq_true q568
                        go_wp2
                        go_roundg k3
                        case measure => have := HJ16.out; have := HK2.out; have := HK3.out; omega
                        case rel => exact ⟨(wrap64 (x13_3 + 1)), (by first | rfl | (simp; done) | (simp [*]; done)), H', ⟨by have := HJ16.out; have := HK2.out; have := HK3.out; omega⟩, ⟨by (with_reducible repeat (first | apply Kd.S_alloc | apply Kd.S_drewN | apply Kd.S_drew)); exact HO_10.out⟩, ⟨by (with_reducible repeat (first | apply Kd.S_alloc | apply Kd.S_drewN | apply Kd.S_drew)); exact HO_11.out⟩, ⟨by (with_reducible repeat (first | apply Kd.V_alloc | apply Kd.V_drewN | apply Kd.V_drew)); exact HO_557001.out⟩, ⟨by (with_reducible repeat (first | refine blk_drewN ?_ _ | refine blk_drew ?_ | refine blk_alloc ?_ _)); exact BK540.out⟩, ⟨by (with_reducible repeat (first | refine blk_drewN ?_ _ | refine blk_drew ?_ | refine blk_alloc ?_ _)); exact BK541.out⟩, ⟨by (with_reducible repeat (first | refine blk_drewN ?_ _ | refine blk_drew ?_ | refine blk_alloc ?_ _)); exact BK556.out⟩, ⟨by repeat (first | (with_reducible first | exact HB.out | apply below_alloc | apply pw_below_drewN | apply below_drew1 | refine below_set ?_ GE540.out | refine below_set ?_ GE541.out | refine below_set ?_ GE556.out) | exact HB.out)⟩⟩
                     ·rw [if_neg c53] at H
                      exact absurd H (by simp)
                    ·rw [if_neg c52] at H
                     exact absurd H (by simp)
                   ·rw [if_neg c51] at H
                    have c51b0 : ((rd (rd_L1 t557 x12_2) x13_3) == 0) = false := beq_eq_false_iff_ne.mpr c51
                    have c51b1 : ((rd (rd_L1 t557 x12_2) x13_3) != 0) = true := bne_iff_ne.mpr c51
                    by_cases c59 : (rd (rd_L1 t557 x12_2) x13_3) = 2
                    ·rw [if_pos c59] at H
                     have c59b0 : ((rd (rd_L1 t557 x12_2) x13_3) == 2) = true := beq_iff_eq.mpr c59
                     have c59b1 : ((rd (rd_L1 t557 x12_2) x13_3) != 2) = false := bne_eq_false_iff_eq.mpr c59
                     clear c59
                     by_cases c60 : x12_2 < (t560.length : Int)
                     ·rw [if_pos c60] at H
                      have c60b0 : decide (x12_2 < (t560.length : Int)) = true := decide_eq_true c60
                      clear c60
                      by_cases c61 : x13_3 < ((rd_L1 t560 x12_2).length : Int)
                      ·rw [if_pos c61] at H
                       have c61b0 : decide (x13_3 < ((rd_L1 t560 x12_2).length : Int)) = true := decide_eq_true c61
                       clear c61
                       by_cases c62 : (rd (rd_L1 t560 x12_2) x13_3) = 2
                       ·rw [if_pos c62] at H
                        have c62b0 : ((rd (rd_L1 t560 x12_2) x13_3) == 2) = true := beq_iff_eq.mpr c62
                        have c62b1 : ((rd (rd_L1 t560 x12_2) x13_3) != 2) = false := bne_eq_false_iff_eq.mpr c62
                        clear c62
                        have H' := Aside0.mk H
                        clear H
                        have p563 : 0 ≤ (x12_2 : Int) := of_decide_eq_true (by first | (with_reducible assumption) | assumption)
                        have q563 : x12_2 < (t557.length : Int) := of_decide_eq_true (by first | (with_reducible assumption) | assumption)
                        obtain ⟨ad563, A563_0, c563_0, e563, hx563_0, hl563_0, hi563_0⟩ := at_L1 (Kd.S_reads' HO_10.out).2.2 x12_2 p563 q563
                        cases e563
                        obtain ⟨ce563, hce563, hMe563, hcc563⟩ := Kd.S_get HO_10.out [] x12_2 p563 (by first | exact q563 | exact of_decide_eq_true (by first | (with_reducible assumption) | assumption) | (have e_ := (Kd.S_reads' HO_10.out).1; omega))
                        obtain ⟨ve563_0, rfl, ge563_0⟩ := hMe563
                        have hv563_0 := hcc563 0 _ rfl
                        rw [Nat.add_zero, show ((Kd.slice 3 (Kd.int .i64))).sz = 1 from rfl, Nat.mul_one] at hv563_0
                        replace hv563_0 := Option.some.inj (hv563_0.symm.trans hx563_0)
                        rw [hv563_0] at ge563_0
                        have HL563_0 := Aside0.mk (show Kd.R (Kd.int .i64) 3 _ _ _ _ (rd_L1 t557 x12_2) from ge563_0)
                        clear hv563_0 ge563_0
                        clear hcc563 hce563
                        have HR563_0 := Aside0.mk hi563_0
                        have HC563_0 := Aside0.mk hl563_0
                        clear hi563_0 hl563_0
                        replace p563 := eq_true p563
                        replace q563 := eq_true q563
                        have p564 : 0 ≤ (x13_3 : Int) := of_decide_eq_true (by first | (with_reducible assumption) | assumption)
                        have q564 : x13_3 < ((rd_L1 t557 x12_2).length : Int) := of_decide_eq_true (by first | (with_reducible assumption) | assumption)
                        obtain ⟨ad564, e564, hx564_0⟩ := Kd.at_int (by repeat (first | (with_reducible exact HR563_0.out) | (with_reducible refine Kd.C_alloc ?_ _) | (with_reducible refine Kd.C_drewN ?_ _) | (with_reducible refine Kd.C_drew ?_) | exact HR563_0.out)) x13_3 p564 q564
                        cases e564
                        replace p564 := eq_true p564
                        replace q564 := eq_true q564
                        have p571 : 0 ≤ (x12_2 : Int) := of_decide_eq_true (by first | (with_reducible assumption) | assumption)
                        have q571 : x12_2 < (t557.length : Int) := of_decide_eq_true (by first | (with_reducible assumption) | assumption)
                        obtain ⟨ad571, A571_0, c571_0, e571, hx571_0, hl571_0, hi571_0⟩ := at_L1 (Kd.S_reads' HO_10.out).2.2 x12_2 p571 q571
                        obtain rfl : ad563 = ad571 := (by injection e571)
                        obtain ⟨ce571, hce571, hMe571, hcc571⟩ := Kd.S_get HO_10.out [] x12_2 p571 (by first | exact q571 | exact of_decide_eq_true (by first | (with_reducible assumption) | assumption) | (have e_ := (Kd.S_reads' HO_10.out).1; omega))
                        obtain ⟨ve571_0, rfl, ge571_0⟩ := hMe571
                        have hv571_0 := hcc571 0 _ rfl
                        rw [Nat.add_zero, show ((Kd.slice 3 (Kd.int .i64))).sz = 1 from rfl, Nat.mul_one] at hv571_0
                        replace hv571_0 := Option.some.inj (hv571_0.symm.trans hx571_0)
                        rw [hv571_0] at ge571_0
                        have HL571_0 := Aside0.mk (show Kd.R (Kd.int .i64) 3 _ _ _ _ (rd_L1 t557 x12_2) from ge571_0)
                        clear hv571_0 ge571_0
                        clear hcc571 hce571
                        have HR571_0 := Aside0.mk hi571_0
                        have HC571_0 := Aside0.mk hl571_0
                        clear hi571_0 hl571_0
                        replace p571 := eq_true p571
                        replace q571 := eq_true q571
                        have ea_ := Option.some.inj (hx563_0.symm.trans hx571_0)
                        injection ea_ with ea_ en_ ec_
                        subst ea_
                        subst ec_
                        clear en_
                        have p572 : 0 ≤ (x13_3 : Int) := of_decide_eq_true (by first | (with_reducible assumption) | assumption)
                        have q572 : x13_3 < ((rd_L1 t557 x12_2).length : Int) := of_decide_eq_true (by first | (with_reducible assumption) | assumption)
                        obtain ⟨ad572, e572, hx572_0⟩ := Kd.at_int (by repeat (first | (with_reducible exact HR571_0.out) | (with_reducible refine Kd.C_alloc ?_ _) | (with_reducible refine Kd.C_drewN ?_ _) | (with_reducible refine Kd.C_drew ?_) | exact HR571_0.out)) x13_3 p572 q572
                        cases e572
                        replace p572 := eq_true p572
                        replace q572 := eq_true q572
                        obtain ⟨Ao63, co63, eo63⟩ := Kd.S_slice HO_11.out
                        subst eo63
                        have p573 : 0 ≤ (x12_2 : Int) := of_decide_eq_true (by first | (with_reducible assumption) | assumption)
                        have q573 : x12_2 < (t560.length : Int) := of_decide_eq_true (by first | (with_reducible assumption) | assumption)
                        obtain ⟨ad573, A573_0, c573_0, e573, hx573_0, hl573_0, hi573_0⟩ := at_L1 (Kd.S_reads' HO_11.out).2.2 x12_2 p573 q573
                        cases e573
                        obtain ⟨ce573, hce573, hMe573, hcc573⟩ := Kd.S_get HO_11.out [] x12_2 p573 (by first | exact q573 | exact of_decide_eq_true (by first | (with_reducible assumption) | assumption) | (have e_ := (Kd.S_reads' HO_11.out).1; omega))
                        obtain ⟨ve573_0, rfl, ge573_0⟩ := hMe573
                        have hv573_0 := hcc573 0 _ rfl
                        rw [Nat.add_zero, show ((Kd.slice 3 (Kd.int .i64))).sz = 1 from rfl, Nat.mul_one] at hv573_0
                        replace hv573_0 := Option.some.inj (hv573_0.symm.trans hx573_0)
                        rw [hv573_0] at ge573_0
                        have HL573_0 := Aside0.mk (show Kd.R (Kd.int .i64) 3 _ _ _ _ (rd_L1 t560 x12_2) from ge573_0)
                        clear hv573_0 ge573_0
                        clear hcc573 hce573
                        have HR573_0 := Aside0.mk hi573_0
                        have HC573_0 := Aside0.mk hl573_0
                        clear hi573_0 hl573_0
                        replace p573 := eq_true p573
                        replace q573 := eq_true q573
                        have p574 : 0 ≤ (x13_3 : Int) := of_decide_eq_true (by first | (with_reducible assumption) | assumption)
                        have q574 : x13_3 < ((rd_L1 t560 x12_2).length : Int) := of_decide_eq_true (by first | (with_reducible assumption) | assumption)
                        obtain ⟨ad574, e574, hx574_0⟩ := Kd.at_int (by repeat (first | (with_reducible exact HR573_0.out) | (with_reducible refine Kd.C_alloc ?_ _) | (with_reducible refine Kd.C_drewN ?_ _) | (with_reducible refine Kd.C_drew ?_) | exact HR573_0.out)) x13_3 p574 q574
                        cases e574
                        replace p574 := eq_true p574
                        replace q574 := eq_true q574
                        go_wp2
                        go_roundg k3
                        case measure => have := HJ16.out; have := HK2.out; have := HK3.out; omega
                        case rel => exact ⟨(wrap64 (x13_3 + 1)), (by first | rfl | (simp; done) | (simp [*]; done)), H', ⟨by have := HJ16.out; have := HK2.out; have := HK3.out; omega⟩, ⟨by (with_reducible repeat (first | apply Kd.S_alloc | apply Kd.S_drewN | apply Kd.S_drew)); exact HO_10.out⟩, ⟨by (with_reducible repeat (first | apply Kd.S_alloc | apply Kd.S_drewN | apply Kd.S_drew)); exact HO_11.out⟩, ⟨by (with_reducible repeat (first | apply Kd.V_alloc | apply Kd.V_drewN | apply Kd.V_drew)); exact HO_557001.out⟩, ⟨by (with_reducible repeat (first | refine blk_drewN ?_ _ | refine blk_drew ?_ | refine blk_alloc ?_ _)); exact BK540.out⟩, ⟨by (with_reducible repeat (first | refine blk_drewN ?_ _ | refine blk_drew ?_ | refine blk_alloc ?_ _)); exact BK541.out⟩, ⟨by (with_reducible repeat (first | refine blk_drewN ?_ _ | refine blk_drew ?_ | refine blk_alloc ?_ _)); exact BK556.out⟩, ⟨by repeat (first | (with_reducible first | exact HB.out | apply below_alloc | apply pw_below_drewN | apply below_drew1 | refine below_set ?_ GE540.out | refine below_set ?_ GE541.out | refine below_set ?_ GE556.out) | exact HB.out)⟩⟩
                       ·rw [if_neg c62] at H
                        have c62b0 : ((rd (rd_L1 t560 x12_2) x13_3) == 2) = false := beq_eq_false_iff_ne.mpr c62
                        have c62b1 : ((rd (rd_L1 t560 x12_2) x13_3) != 2) = true := bne_iff_ne.mpr c62
                        exact absurd H (by simp)
                      ·rw [if_neg c61] at H
                       exact absurd H (by simp)
                     ·rw [if_neg c60] at H
                      exact absurd H (by simp)
                    ·rw [if_neg c59] at H
                     have c59b0 : ((rd (rd_L1 t557 x12_2) x13_3) == 2) = false := beq_eq_false_iff_ne.mpr c59
                     have c59b1 : ((rd (rd_L1 t557 x12_2) x13_3) != 2) = true := bne_iff_ne.mpr c59
                     have H' := Aside0.mk H
                     clear H
                     have p563 : 0 ≤ (x12_2 : Int) := of_decide_eq_true (by first | (with_reducible assumption) | assumption)
                     have q563 : x12_2 < (t557.length : Int) := of_decide_eq_true (by first | (with_reducible assumption) | assumption)
                     obtain ⟨ad563, A563_0, c563_0, e563, hx563_0, hl563_0, hi563_0⟩ := at_L1 (Kd.S_reads' HO_10.out).2.2 x12_2 p563 q563
                     cases e563
                     obtain ⟨ce563, hce563, hMe563, hcc563⟩ := Kd.S_get HO_10.out [] x12_2 p563 (by first | exact q563 | exact of_decide_eq_true (by first | (with_reducible assumption) | assumption) | (have e_ := (Kd.S_reads' HO_10.out).1; omega))
                     obtain ⟨ve563_0, rfl, ge563_0⟩ := hMe563
                     have hv563_0 := hcc563 0 _ rfl
                     rw [Nat.add_zero, show ((Kd.slice 3 (Kd.int .i64))).sz = 1 from rfl, Nat.mul_one] at hv563_0
                     replace hv563_0 := Option.some.inj (hv563_0.symm.trans hx563_0)
                     rw [hv563_0] at ge563_0
                     have HL563_0 := Aside0.mk (show Kd.R (Kd.int .i64) 3 _ _ _ _ (rd_L1 t557 x12_2) from ge563_0)
                     clear hv563_0 ge563_0
                     clear hcc563 hce563
                     have HR563_0 := Aside0.mk hi563_0
                     have HC563_0 := Aside0.mk hl563_0
                     clear hi563_0 hl563_0
                     replace p563 := eq_true p563
                     replace q563 := eq_true q563
                     have p564 : 0 ≤ (x13_3 : Int) := of_decide_eq_true (by first | (with_reducible assumption) | assumption)
                     have q564 : x13_3 < ((rd_L1 t557 x12_2).length : Int) := of_decide_eq_true (by first | (with_reducible assumption) | assumption)
                     obtain ⟨ad564, e564, hx564_0⟩ := Kd.at_int (by repeat (first | (with_reducible exact HR563_0.out) | (with_reducible refine Kd.C_alloc ?_ _) | (with_reducible refine Kd.C_drewN ?_ _) | (with_reducible refine Kd.C_drew ?_) | exact HR563_0.out)) x13_3 p564 q564
                     cases e564
                     replace p564 := eq_true p564
                     replace q564 := eq_true q564
                     have p571 : 0 ≤ (x12_2 : Int) := of_decide_eq_true (by first | (with_reducible assumption) | assumption)
                     have q571 : x12_2 < (t557.length : Int) := of_decide_eq_true (by first | (with_reducible assumption) | assumption)
                     obtain ⟨ad571, A571_0, c571_0, e571, hx571_0, hl571_0, hi571_0⟩ := at_L1 (Kd.S_reads' HO_10.out).2.2 x12_2 p571 q571
                     obtain rfl : ad563 = ad571 := (by injection e571)
                     obtain ⟨ce571, hce571, hMe571, hcc571⟩ := Kd.S_get HO_10.out [] x12_2 p571 (by first | exact q571 | exact of_decide_eq_true (by first | (with_reducible assumption) | assumption) | (have e_ := (Kd.S_reads' HO_10.out).1; omega))
                     obtain ⟨ve571_0, rfl, ge571_0⟩ := hMe571
                     have hv571_0 := hcc571 0 _ rfl
                     rw [Nat.add_zero, show ((Kd.slice 3 (Kd.int .i64))).sz = 1 from rfl, Nat.mul_one] at hv571_0
                     replace hv571_0 := Option.some.inj (hv571_0.symm.trans hx571_0)
                     rw [hv571_0] at ge571_0
                     have HL571_0 := Aside0.mk (show Kd.R (Kd.int .i64) 3 _ _ _ _ (rd_L1 t557 x12_2) from ge571_0)
                     clear hv571_0 ge571_0
                     clear hcc571 hce571
                     have HR571_0 := Aside0.mk hi571_0
                     have HC571_0 := Aside0.mk hl571_0
                     clear hi571_0 hl571_0
                     replace p571 := eq_true p571
                     replace q571 := eq_true q571
                     have ea_ := Option.some.inj (hx563_0.symm.trans hx571_0)
                     injection ea_ with ea_ en_ ec_
                     subst ea_
                     subst ec_
                     clear en_
                     have p572 : 0 ≤ (x13_3 : Int) := of_decide_eq_true (by first | (with_reducible assumption) | assumption)
                     have q572 : x13_3 < ((rd_L1 t557 x12_2).length : Int) := of_decide_eq_true (by first | (with_reducible assumption) | assumption)
                     obtain ⟨ad572, e572, hx572_0⟩ := Kd.at_int (by repeat (first | (with_reducible exact HR571_0.out) | (with_reducible refine Kd.C_alloc ?_ _) | (with_reducible refine Kd.C_drewN ?_ _) | (with_reducible refine Kd.C_drew ?_) | exact HR571_0.out)) x13_3 p572 q572
                     cases e572
                     replace p572 := eq_true p572
                     replace q572 := eq_true q572
                     go_wp2
                     go_roundg k3
                     case measure => have := HJ16.out; have := HK2.out; have := HK3.out; omega
                     case rel => exact ⟨(wrap64 (x13_3 + 1)), (by first | rfl | (simp; done) | (simp [*]; done)), H', ⟨by have := HJ16.out; have := HK2.out; have := HK3.out; omega⟩, ⟨by (with_reducible repeat (first | apply Kd.S_alloc | apply Kd.S_drewN | apply Kd.S_drew)); exact HO_10.out⟩, ⟨by (with_reducible repeat (first | apply Kd.S_alloc | apply Kd.S_drewN | apply Kd.S_drew)); exact HO_11.out⟩, ⟨by (with_reducible repeat (first | apply Kd.V_alloc | apply Kd.V_drewN | apply Kd.V_drew)); exact HO_557001.out⟩, ⟨by (with_reducible repeat (first | refine blk_drewN ?_ _ | refine blk_drew ?_ | refine blk_alloc ?_ _)); exact BK540.out⟩, ⟨by (with_reducible repeat (first | refine blk_drewN ?_ _ | refine blk_drew ?_ | refine blk_alloc ?_ _)); exact BK541.out⟩, ⟨by (with_reducible repeat (first | refine blk_drewN ?_ _ | refine blk_drew ?_ | refine blk_alloc ?_ _)); exact BK556.out⟩, ⟨by repeat (first | (with_reducible first | exact HB.out | apply below_alloc | apply pw_below_drewN | apply below_drew1 | refine below_set ?_ GE540.out | refine below_set ?_ GE541.out | refine below_set ?_ GE556.out) | exact HB.out)⟩⟩
                  ·rw [if_neg c50] at H
                   exact absurd H (by simp)
                 ·rw [if_neg c49] at H
                  exact absurd H (by simp)
                ·rw [if_neg c48] at H
                 exact absurd H (by simp)
               ·rw [if_neg c47] at H
                exact absurd H (by simp)
              ·rw [if_neg c46] at H
               have c46b0 : decide (x13_3 < (t557.length : Int)) = false := decide_eq_false c46
               clear c46
               have H' := Aside0.mk H
               clear H
               go_wp2
               go_roundg k3
               case measure => have := HJ16.out; have := HK2.out; have := HK3.out; omega
               case rel => exact ⟨(wrap64 (x12_2 + 1)), (by first | rfl | (simp; done) | (simp [*]; done)), H', ⟨by have := HJ16.out; have := HK2.out; have := HK3.out; omega⟩, ⟨by (with_reducible repeat (first | apply Kd.S_alloc | apply Kd.S_drewN | apply Kd.S_drew)); exact HO_10.out⟩, ⟨by (with_reducible repeat (first | apply Kd.S_alloc | apply Kd.S_drewN | apply Kd.S_drew)); exact HO_11.out⟩, ⟨by (with_reducible repeat (first | apply Kd.V_alloc | apply Kd.V_drewN | apply Kd.V_drew)); exact HO_557001.out⟩, ⟨by (with_reducible repeat (first | refine blk_drewN ?_ _ | refine blk_drew ?_ | refine blk_alloc ?_ _)); exact BK540.out⟩, ⟨by (with_reducible repeat (first | refine blk_drewN ?_ _ | refine blk_drew ?_ | refine blk_alloc ?_ _)); exact BK541.out⟩, ⟨by (with_reducible repeat (first | refine blk_drewN ?_ _ | refine blk_drew ?_ | refine blk_alloc ?_ _)); exact BK556.out⟩, ⟨by repeat (first | (with_reducible first | exact HB.out | apply below_alloc | apply pw_below_drewN | apply below_drew1 | refine below_set ?_ GE540.out | refine below_set ?_ GE541.out | refine below_set ?_ GE556.out) | exact HB.out)⟩⟩
           ·rw [if_neg c44] at H
            have c44b0 : decide (x12_2 < (t557.length : Int)) = false := decide_eq_false c44
            clear c44
            replace H := Option.bind_eq_some_iff.mp H
            obtain ⟨t575, A640, H⟩ := H
            replace H : ((dapple_Whose.f a0_0 l0_1 t575).bind fun bt578 => ((dapple_Whose.f t552 t553 t575).bind fun bt582 => (if bt578.2 = 0 then (skewbaldlaw07_DappleMore.j3 k2 bt578.1 bt582.1 (bt582.2 != 0) a0_0 l0_1 t552 t553) else (skewbaldlaw07_DappleMore.j3 k2 bt578.1 bt582.1 true a0_0 l0_1 t552 t553)))) = some true := H
            have A64 := Aside0.mk A640
            clear A640
            replace H := Option.bind_eq_some_iff.mp H
            obtain ⟨⟨t578, t581⟩, A650, H⟩ := H
            replace H : ((dapple_Whose.f t552 t553 t575).bind fun bt582 => (if t581 = 0 then (skewbaldlaw07_DappleMore.j3 k2 t578 bt582.1 (bt582.2 != 0) a0_0 l0_1 t552 t553) else (skewbaldlaw07_DappleMore.j3 k2 t578 bt582.1 true a0_0 l0_1 t552 t553))) = some true := H
            have A65 := Aside0.mk A650
            clear A650
            replace H := Option.bind_eq_some_iff.mp H
            obtain ⟨⟨t582, t585⟩, A660, H⟩ := H
            replace H : (if t581 = 0 then (skewbaldlaw07_DappleMore.j3 k2 t578 t582 (t585 != 0) a0_0 l0_1 t552 t553) else (skewbaldlaw07_DappleMore.j3 k2 t578 t582 true a0_0 l0_1 t552 t553)) = some true := H
            have A66 := Aside0.mk A660
            clear A660
            have HC67 := Aside0.mk H
            clear H
            obtain ⟨Ao68, co68, eo68⟩ := Kd.S_slice HO_10.out
            subst eo68
            have hnb69 := NB540_541.out
            have hnc69 := NB541_540.out
            have hnb70 := NB540_556.out
            have hnc70 := NB556_540.out
            have hcz71_0 : wr.cell? ⟨gb540, 0, none⟩ = some (.int .i64 a0_0) := (blk_cell BK540.out 0).trans rfl
            have hcz71_1 : wr.cell? ⟨gb540, 1, none⟩ = some (.slice (some ad546) l0_1.length c0_1) := (blk_cell BK540.out 1).trans rfl
            have hfz71_0 := blk_frozen BK540.out 0
            have hfz71_1 := blk_frozen BK540.out 1
            go_upto_region 19 with (first | ((with_reducible refine gate_callee (f := 39) rfl ?_); refine goesL_ (some 129) rfl rfl Tryd.func39 (by kernel_rfl) rfl #[.int .i64 a0_0, .slice A2 l2.length c2] rfl (by (try simp only [List.map_toArray, List.map_cons, List.map_nil]); first | done | rfl | (simp only [List.length_drop, List.length_take]; rfl)) ?_; (with_reducible refine (skewbaldlaw07_sizes.calls k2 a0_0 _ _ l2 t575 _ ?side1 ?side2 A64.out).mono ?_); (case side1 => repeat (first | exact (Kd.C_below HR2.out HB.out) | (with_reducible refine Kd.C_alloc ?_ _) | (with_reducible refine Kd.C_drewN ?_ _) | (with_reducible refine Kd.C_drew ?_))); (case side2 => exact HC2.out); rintro e w72 ⟨v576, rfl, ho0, hb⟩; refine ⟨_, rfl, ?_⟩; have n0_ := Aside0.mk (Kd.S_elder' (by (with_reducible repeat (first | apply Kd.S_alloc | apply Kd.S_drewN | apply Kd.S_drew)); exact HO_10.out) (Kd.R_base ho0) hb); have n1_ := Aside0.mk (Kd.S_elder' (by (with_reducible repeat (first | apply Kd.S_alloc | apply Kd.S_drewN | apply Kd.S_drew)); exact HO_11.out) (Kd.R_base ho0) hb); have n2_ := Aside0.mk (Kd.V_elder' (by (with_reducible repeat (first | apply Kd.V_alloc | apply Kd.V_drewN | apply Kd.V_drew)); exact HO_557001.out) (Kd.R_base ho0) hb); have n3_ := Aside0.mk (Kd.R_lower ho0 (below_size (by repeat (first | (with_reducible first | exact HB.out | apply below_alloc | apply pw_below_drewN | apply below_drew1 | refine below_set ?_ GE540.out | refine below_set ?_ GE541.out | refine below_set ?_ GE556.out) | exact HB.out)))); have n4_ := Aside0.mk (blk_below (g := gb540) (o := .cells #[.int .i64 a0_0, .slice (some ad546) l0_1.length c0_1] 24 (0, 0)) (by (with_reducible repeat (first | refine blk_drewN ?_ _ | refine blk_drew ?_ | refine blk_alloc ?_ _)); exact BK540.out) hb); have n5_ := Aside0.mk (blk_below (g := gb541) (o := .cells #[.int .i64 a1_0, .int .i64 a1_1, .int .i64 a1_2] 49 (0, 0)) (by (with_reducible repeat (first | refine blk_drewN ?_ _ | refine blk_drew ?_ | refine blk_alloc ?_ _)); exact BK541.out) hb); have n6_ := Aside0.mk (blk_below (g := gb556) (o := .cells #[.int .i64 t552, .slice Ao31 t553.length co31] 24 (0, 0)) (by (with_reducible repeat (first | refine blk_drewN ?_ _ | refine blk_drew ?_ | refine blk_alloc ?_ _)); exact BK556.out) hb); have n7_ := Aside0.mk (below_step (by repeat (first | (with_reducible first | exact HB.out | apply below_alloc | apply pw_below_drewN | apply below_drew1 | refine below_set ?_ GE540.out | refine below_set ?_ GE541.out | refine below_set ?_ GE556.out) | exact HB.out)) hb); clear HO_10; clear HO_11; clear HO_557001; clear BK540; clear BK541; clear BK556; clear HB; have HO_10 := n0_; have HO_11 := n1_; have HO_557001 := n2_; have HO577 := n3_; have BK540 := n4_; have BK541 := n5_; have BK556 := n6_; have HB := n7_; clear n0_ n1_ n2_ n3_ n4_ n5_ n6_ n7_; (try clear hb); (try clear hb2); (try clear hk); (try clear hi); (try clear ho0); have hcz73_0 : w72.cell? ⟨gb540, 0, none⟩ = some (.int .i64 a0_0) := (blk_cell BK540.out 0).trans rfl; have hcz73_1 : w72.cell? ⟨gb540, 1, none⟩ = some (.slice (some ad546) l0_1.length c0_1) := (blk_cell BK540.out 1).trans rfl; have hfz73_0 := blk_frozen BK540.out 0; have hfz73_1 := blk_frozen BK540.out 1; obtain ⟨Ao74, co74, eo74⟩ := Kd.R_slice HO577.out; subst eo74) | ((with_reducible refine gate_callee (f := 25) rfl ?_); refine goesL_ (some 133) rfl rfl Tryd.func25 (by kernel_rfl) rfl #[.agg #[.int .i64 a0_0, .slice (some ad546) l0_1.length c0_1], .slice Ao74 t575.length co74] rfl (by (try simp only [List.map_toArray, List.map_cons, List.map_nil]); first | done | rfl | (simp only [List.length_drop, List.length_take]; rfl)) ?_; (with_reducible refine (dapple_Whose.calls a0_0 _ _ l0_1 _ _ t575 t578 t581 _ ?side1 ?side2 ?side3 ?side4 ?side5 A65.out).mono ?_); (case side1 => repeat (first | exact (Kd.C_below HR0_1.out HB.out) | (with_reducible refine Kd.C_alloc ?_ _) | (with_reducible refine Kd.C_drewN ?_ _) | (with_reducible refine Kd.C_drew ?_))); (case side2 => exact HC0_1.out); (case side3 => repeat (first | exact (Kd.R_reads' HO577.out).2.2 | (with_reducible refine Kd.C_alloc ?_ _) | (with_reducible refine Kd.C_drewN ?_ _) | (with_reducible refine Kd.C_drew ?_))); (case side4 => exact (Kd.R_reads' HO577.out).2.1); (case side5 => exact Glob.below HGL.out (by repeat (first | (with_reducible first | exact HB.out | apply below_alloc | apply pw_below_drewN | apply below_drew1 | refine below_set ?_ GE540.out | refine below_set ?_ GE541.out | refine below_set ?_ GE556.out) | exact HB.out))); rintro e w75 ⟨v579, rfl, ho0, hb⟩; refine ⟨_, rfl, ?_⟩; have n0_ := Aside0.mk (Kd.S_below (by (with_reducible repeat (first | apply Kd.S_alloc | apply Kd.S_drewN | apply Kd.S_drew)); exact HO_10.out) hb); have n1_ := Aside0.mk (Kd.S_below (by (with_reducible repeat (first | apply Kd.S_alloc | apply Kd.S_drewN | apply Kd.S_drew)); exact HO_11.out) hb); have n2_ := Aside0.mk (Kd.V_below (by (with_reducible repeat (first | apply Kd.V_alloc | apply Kd.V_drewN | apply Kd.V_drew)); exact HO_557001.out) hb); have n3_ := Aside0.mk (Kd.R_below (by (with_reducible repeat (first | apply Kd.R_alloc | apply Kd.R_drewN | apply Kd.R_drew)); exact HO577.out) hb); have n4_ := Aside0.mk (Kd.V_lower (Kd.V_mono (ok' := fun k_ => some k_ ≠ (.slice Ao68 t557.length co68 : Value).ownBlock ∧ some k_ ≠ (v561 : Value).ownBlock ∧ some k_ ≠ (.slice Ao74 t575.length co74 : Value).ownBlock ∧ k_ ≠ gb540 ∧ k_ ≠ gb541 ∧ k_ ≠ gb556) ho0 (fun k_ hk_ => ⟨(Kd.fresh' (Kd.S_lt (by (with_reducible repeat (first | apply Kd.S_alloc | apply Kd.S_drewN | apply Kd.S_drew)); exact HO_10.out)) k_ hk_), (Kd.fresh' (Kd.S_lt (by (with_reducible repeat (first | apply Kd.S_alloc | apply Kd.S_drewN | apply Kd.S_drew)); exact HO_11.out)) k_ hk_), (Kd.fresh' (Kd.R_lt (by (with_reducible repeat (first | apply Kd.R_alloc | apply Kd.R_drewN | apply Kd.R_drew)); exact HO577.out)) k_ hk_), (Kd.freshB (g := gb540) (o := .cells #[.int .i64 a0_0, .slice (some ad546) l0_1.length c0_1] 24 (0, 0)) (by (with_reducible repeat (first | refine blk_drewN ?_ _ | refine blk_drew ?_ | refine blk_alloc ?_ _)); exact BK540.out) k_ hk_), (Kd.freshB (g := gb541) (o := .cells #[.int .i64 a1_0, .int .i64 a1_1, .int .i64 a1_2] 49 (0, 0)) (by (with_reducible repeat (first | refine blk_drewN ?_ _ | refine blk_drew ?_ | refine blk_alloc ?_ _)); exact BK541.out) k_ hk_), (Kd.freshB (g := gb556) (o := .cells #[.int .i64 t552, .slice Ao31 t553.length co31] 24 (0, 0)) (by (with_reducible repeat (first | refine blk_drewN ?_ _ | refine blk_drew ?_ | refine blk_alloc ?_ _)); exact BK556.out) k_ hk_)⟩)) (below_size (by repeat (first | (with_reducible first | exact HB.out | apply below_alloc | apply pw_below_drewN | apply below_drew1 | refine below_set ?_ GE540.out | refine below_set ?_ GE541.out | refine below_set ?_ GE556.out) | exact HB.out)))); have n5_ := Aside0.mk (blk_below (g := gb540) (o := .cells #[.int .i64 a0_0, .slice (some ad546) l0_1.length c0_1] 24 (0, 0)) (by (with_reducible repeat (first | refine blk_drewN ?_ _ | refine blk_drew ?_ | refine blk_alloc ?_ _)); exact BK540.out) hb); have n6_ := Aside0.mk (blk_below (g := gb541) (o := .cells #[.int .i64 a1_0, .int .i64 a1_1, .int .i64 a1_2] 49 (0, 0)) (by (with_reducible repeat (first | refine blk_drewN ?_ _ | refine blk_drew ?_ | refine blk_alloc ?_ _)); exact BK541.out) hb); have n7_ := Aside0.mk (blk_below (g := gb556) (o := .cells #[.int .i64 t552, .slice Ao31 t553.length co31] 24 (0, 0)) (by (with_reducible repeat (first | refine blk_drewN ?_ _ | refine blk_drew ?_ | refine blk_alloc ?_ _)); exact BK556.out) hb); have n8_ := Aside0.mk (below_step (by repeat (first | (with_reducible first | exact HB.out | apply below_alloc | apply pw_below_drewN | apply below_drew1 | refine below_set ?_ GE540.out | refine below_set ?_ GE541.out | refine below_set ?_ GE556.out) | exact HB.out)) hb); clear HO_10; clear HO_11; clear HO_557001; clear HO577; clear BK540; clear BK541; clear BK556; clear HB; have HO_10 := n0_; have HO_11 := n1_; have HO_557001 := n2_; have HO577 := n3_; have HO580 := n4_; have BK540 := n5_; have BK541 := n6_; have BK556 := n7_; have HB := n8_; clear n0_ n1_ n2_ n3_ n4_ n5_ n6_ n7_ n8_; (try clear hb); (try clear hb2); (try clear hk); (try clear hi); (try clear ho0); have hnb76 := NB556_541.out; have hnc76 := NB541_556.out; have hcz77_0 : w75.cell? ⟨gb556, 0, none⟩ = some (.int .i64 t552) := (blk_cell BK556.out 0).trans rfl; have hcz77_1 : w75.cell? ⟨gb556, 1, none⟩ = some (.slice Ao31 t553.length co31) := (blk_cell BK556.out 1).trans rfl; have hfz77_0 := blk_frozen BK556.out 0; have hfz77_1 := blk_frozen BK556.out 1) | ((with_reducible refine gate_callee (f := 25) rfl ?_); refine goesL_ (some 139) rfl rfl Tryd.func25 (by kernel_rfl) rfl #[.agg #[.int .i64 t552, .slice Ao31 t553.length co31], .slice Ao74 t575.length co74] rfl (by (try simp only [List.map_toArray, List.map_cons, List.map_nil]); first | done | rfl | (simp only [List.length_drop, List.length_take]; rfl)) ?_; (with_reducible refine (dapple_Whose.calls t552 _ _ t553 _ _ t575 t582 t585 _ ?side1 ?side2 ?side3 ?side4 ?side5 A66.out).mono ?_); (case side1 => repeat (first | exact (Kd.V_reads' HO_557001.out).2.2 | (with_reducible refine Kd.C_alloc ?_ _) | (with_reducible refine Kd.C_drewN ?_ _) | (with_reducible refine Kd.C_drew ?_))); (case side2 => exact (Kd.V_reads' HO_557001.out).2.1); (case side3 => repeat (first | exact (Kd.R_reads' HO577.out).2.2 | (with_reducible refine Kd.C_alloc ?_ _) | (with_reducible refine Kd.C_drewN ?_ _) | (with_reducible refine Kd.C_drew ?_))); (case side4 => exact (Kd.R_reads' HO577.out).2.1); (case side5 => exact Glob.below HGL.out (by repeat (first | (with_reducible first | exact HB.out | apply below_alloc | apply pw_below_drewN | apply below_drew1 | refine below_set ?_ GE540.out | refine below_set ?_ GE541.out | refine below_set ?_ GE556.out) | exact HB.out))); rintro e w78 ⟨v583, rfl, ho0, hb⟩; refine ⟨_, rfl, ?_⟩; have n0_ := Aside0.mk (Kd.S_below (by (with_reducible repeat (first | apply Kd.S_alloc | apply Kd.S_drewN | apply Kd.S_drew)); exact HO_10.out) hb); have n1_ := Aside0.mk (Kd.S_below (by (with_reducible repeat (first | apply Kd.S_alloc | apply Kd.S_drewN | apply Kd.S_drew)); exact HO_11.out) hb); have n2_ := Aside0.mk (Kd.V_below (by (with_reducible repeat (first | apply Kd.V_alloc | apply Kd.V_drewN | apply Kd.V_drew)); exact HO_557001.out) hb); have n3_ := Aside0.mk (Kd.R_below (by (with_reducible repeat (first | apply Kd.R_alloc | apply Kd.R_drewN | apply Kd.R_drew)); exact HO577.out) hb); have n4_ := Aside0.mk (Kd.V_below (by (with_reducible repeat (first | apply Kd.V_alloc | apply Kd.V_drewN | apply Kd.V_drew)); exact HO580.out) hb); have n5_ := Aside0.mk (Kd.V_lower (Kd.V_mono (ok' := fun k_ => some k_ ≠ (.slice Ao68 t557.length co68 : Value).ownBlock ∧ some k_ ≠ (v561 : Value).ownBlock ∧ some k_ ≠ (.slice Ao74 t575.length co74 : Value).ownBlock ∧ k_ ≠ gb540 ∧ k_ ≠ gb541 ∧ k_ ≠ gb556) ho0 (fun k_ hk_ => ⟨(Kd.fresh' (Kd.S_lt (by (with_reducible repeat (first | apply Kd.S_alloc | apply Kd.S_drewN | apply Kd.S_drew)); exact HO_10.out)) k_ hk_), (Kd.fresh' (Kd.S_lt (by (with_reducible repeat (first | apply Kd.S_alloc | apply Kd.S_drewN | apply Kd.S_drew)); exact HO_11.out)) k_ hk_), (Kd.fresh' (Kd.R_lt (by (with_reducible repeat (first | apply Kd.R_alloc | apply Kd.R_drewN | apply Kd.R_drew)); exact HO577.out)) k_ hk_), (Kd.freshB (g := gb540) (o := .cells #[.int .i64 a0_0, .slice (some ad546) l0_1.length c0_1] 24 (0, 0)) (by (with_reducible repeat (first | refine blk_drewN ?_ _ | refine blk_drew ?_ | refine blk_alloc ?_ _)); exact BK540.out) k_ hk_), (Kd.freshB (g := gb541) (o := .cells #[.int .i64 a1_0, .int .i64 a1_1, .int .i64 a1_2] 49 (0, 0)) (by (with_reducible repeat (first | refine blk_drewN ?_ _ | refine blk_drew ?_ | refine blk_alloc ?_ _)); exact BK541.out) k_ hk_), (Kd.freshB (g := gb556) (o := .cells #[.int .i64 t552, .slice Ao31 t553.length co31] 24 (0, 0)) (by (with_reducible repeat (first | refine blk_drewN ?_ _ | refine blk_drew ?_ | refine blk_alloc ?_ _)); exact BK556.out) k_ hk_)⟩)) (below_size (by repeat (first | (with_reducible first | exact HB.out | apply below_alloc | apply pw_below_drewN | apply below_drew1 | refine below_set ?_ GE540.out | refine below_set ?_ GE541.out | refine below_set ?_ GE556.out) | exact HB.out)))); have n6_ := Aside0.mk (blk_below (g := gb540) (o := .cells #[.int .i64 a0_0, .slice (some ad546) l0_1.length c0_1] 24 (0, 0)) (by (with_reducible repeat (first | refine blk_drewN ?_ _ | refine blk_drew ?_ | refine blk_alloc ?_ _)); exact BK540.out) hb); have n7_ := Aside0.mk (blk_below (g := gb541) (o := .cells #[.int .i64 a1_0, .int .i64 a1_1, .int .i64 a1_2] 49 (0, 0)) (by (with_reducible repeat (first | refine blk_drewN ?_ _ | refine blk_drew ?_ | refine blk_alloc ?_ _)); exact BK541.out) hb); have n8_ := Aside0.mk (blk_below (g := gb556) (o := .cells #[.int .i64 t552, .slice Ao31 t553.length co31] 24 (0, 0)) (by (with_reducible repeat (first | refine blk_drewN ?_ _ | refine blk_drew ?_ | refine blk_alloc ?_ _)); exact BK556.out) hb); have n9_ := Aside0.mk (below_step (by repeat (first | (with_reducible first | exact HB.out | apply below_alloc | apply pw_below_drewN | apply below_drew1 | refine below_set ?_ GE540.out | refine below_set ?_ GE541.out | refine below_set ?_ GE556.out) | exact HB.out)) hb); clear HO_10; clear HO_11; clear HO_557001; clear HO577; clear HO580; clear BK540; clear BK541; clear BK556; clear HB; have HO_10 := n0_; have HO_11 := n1_; have HO_557001 := n2_; have HO577 := n3_; have HO580 := n4_; have HO584 := n5_; have BK540 := n6_; have BK541 := n7_; have BK556 := n8_; have HB := n9_; clear n0_ n1_ n2_ n3_ n4_ n5_ n6_ n7_ n8_ n9_; (try clear hb); (try clear hb2); (try clear hk); (try clear hi); (try clear ho0)))
            (try simp only [Act.put, List.setIfInBounds_toArray, List.set_cons_zero, List.set_cons_succ])
            go_cut [147] (fun v147 wc => ∃ (kq : Nat) (x147_66 : Bool), v147 = .bool x147_66 ∧ Aside0 (skewbaldlaw07_DappleMore.j3 kq t578 t582 x147_66 a0_0 l0_1 t552 t553 = some true) ∧ Aside0 (kq ≤ k2) ∧ Aside0 (Kd.V (Kd.int .i64) 3 wc w.heap.size (fun k_ => k_ ≠ gb540 ∧ k_ ≠ gb541 ∧ k_ ≠ gb556) v579 t578) ∧ Aside0 (Kd.V (Kd.int .i64) 3 wc w.heap.size (fun k_ => k_ ≠ gb540 ∧ k_ ≠ gb541 ∧ k_ ≠ gb556) v583 t582) ∧ Aside0 (Kd.V (Kd.slice 3 (Kd.int .i64)) 26 wc w.heap.size (fun k_ => k_ ≠ gb540 ∧ k_ ≠ gb541 ∧ k_ ≠ gb556) (.slice Ao31 t553.length co31) t553) ∧ Aside0 (wc.heap[gb540]? = some (.cells #[.int .i64 a0_0, (.slice (some ad546) l0_1.length c0_1)] 24 (0, 0))) ∧ Aside0 (wc.heap[gb541]? = some (.cells #[.int .i64 a1_0, .int .i64 a1_1, .int .i64 a1_2] 49 (0, 0))) ∧ Aside0 (wc.heap[gb556]? = some (.cells #[.int .i64 t552, (.slice Ao31 t553.length co31)] 24 (0, 0))) ∧ Aside0 (Below w.heap.size w wc))
            case first =>
             have H := HC67.out
             clear HC67
             by_cases c79 : t581 = 0
             ·rw [if_pos c79] at H
              have c79b0 : (t581 == 0) = true := beq_iff_eq.mpr c79
              have c79b1 : (t581 != 0) = false := bne_eq_false_iff_eq.mpr c79
              clear c79
              (first | rw [c79b0] | (simp only [i64_w, i32_w]; rw [c79b0]) | skip)
              have H' := Aside0.mk H
              clear H
              go_wp2
              go_meet
              case rel => exact ⟨_, ((t585 != 0)), (by first | rfl | (simp; done) | (simp [*]; done)), H', ⟨by have := HJ16.out; have := HK2.out; first | omega | exact Nat.le_refl _⟩, ⟨by (with_reducible repeat (first | apply Kd.V_alloc | apply Kd.V_drewN | apply Kd.V_drew)); exact Kd.V_mono HO580.out (fun _ hk => ⟨hk.2.2.2.1, ⟨hk.2.2.2.2.1, hk.2.2.2.2.2⟩⟩)⟩, ⟨by (with_reducible repeat (first | apply Kd.V_alloc | apply Kd.V_drewN | apply Kd.V_drew)); exact Kd.V_mono HO584.out (fun _ hk => ⟨hk.2.2.2.1, ⟨hk.2.2.2.2.1, hk.2.2.2.2.2⟩⟩)⟩, ⟨by (with_reducible repeat (first | apply Kd.V_alloc | apply Kd.V_drewN | apply Kd.V_drew)); exact Kd.V_mono HO_557001.out (fun _ hk => ⟨hk.1.2.2.1, ⟨hk.1.2.2.2.1, hk.1.2.2.2.2⟩⟩)⟩, ⟨by (with_reducible repeat (first | refine blk_drewN ?_ _ | refine blk_drew ?_ | refine blk_alloc ?_ _)); exact BK540.out⟩, ⟨by (with_reducible repeat (first | refine blk_drewN ?_ _ | refine blk_drew ?_ | refine blk_alloc ?_ _)); exact BK541.out⟩, ⟨by (with_reducible repeat (first | refine blk_drewN ?_ _ | refine blk_drew ?_ | refine blk_alloc ?_ _)); exact BK556.out⟩, ⟨by repeat (first | (with_reducible first | exact HB.out | apply below_alloc | apply pw_below_drewN | apply below_drew1 | refine below_set ?_ GE540.out | refine below_set ?_ GE541.out | refine below_set ?_ GE556.out) | exact HB.out)⟩⟩
             ·rw [if_neg c79] at H
              have c79b0 : (t581 == 0) = false := beq_eq_false_iff_ne.mpr c79
              have c79b1 : (t581 != 0) = true := bne_iff_ne.mpr c79
              (first | rw [c79b0] | (simp only [i64_w, i32_w]; rw [c79b0]) | skip)
              exact absurd H (by rcases k2 with _ | k2 <;> (first | (simp [skewbaldlaw07_DappleMore.j3]; done) | (rcases k2 with _ | k2 <;> simp [skewbaldlaw07_DappleMore.j3])))
            case rest =>
             clear HC67
             try clear c2
             try clear p2
             try clear c3
             try clear c4
             try clear c5
             try clear p5
             try clear q5
             try clear hx5
             try clear c6
             try clear p6
             try clear c7
             try clear c25
             try clear c37
             try clear c37b0
             try clear c37b1
             try clear c37b2
             try clear c38
             try clear c39
             try clear c40
             try clear c43
             try clear c44
             try clear c44b0
             try clear c46
             try clear c46b0
             try clear c47
             try clear c47b0
             try clear c48
             try clear c48b0
             try clear c49
             try clear c49b0
             try clear c50
             try clear c50b0
             try clear c51
             try clear c51b0
             try clear c51b1
             try clear c52
             try clear c52b0
             try clear c53
             try clear c53b0
             try clear c54
             try clear c54b0
             try clear c55
             try clear c55b0
             try clear c55b1
             try clear c56
             try clear c56b0
             try clear c56b1
             try clear p56
             try clear q56
             try clear hx56
             try clear c57
             try clear p57
             try clear q57
             try clear hx57
             try clear c59
             try clear c59b0
             try clear c59b1
             try clear c60
             try clear c60b0
             try clear c61
             try clear c61b0
             try clear c62
             try clear c62b0
             try clear c62b1
             try clear p64
             try clear c69
             try clear c70
             try clear c76
             try clear c79
             try clear c79b0
             try clear c79b1
             try clear hcz41_0
             try clear hcz41_1
             try clear hcz71_0
             try clear hcz71_1
             try clear hcz73_0
             try clear hcz73_1
             try clear hcz77_0
             try clear hcz77_1
             try clear hfz41_0
             try clear hfz41_1
             try clear hfz71_0
             try clear hfz71_1
             try clear hfz73_0
             try clear hfz73_1
             try clear hfz77_0
             try clear hfz77_1
             try clear hx563_0
             try clear hx564_0
             try clear hx565_0
             try clear hx566_0
             try clear hx567_0
             try clear hx568_0
             try clear hx569_0
             try clear hx570_0
             try clear hx571_0
             try clear hx572_0
             try clear hx573_0
             try clear hx574_0
             try clear p2
             try clear p563
             try clear p564
             try clear p565
             try clear p566
             try clear p567
             try clear p568
             try clear p569
             try clear p570
             try clear p571
             try clear p572
             try clear p573
             try clear p574
             try clear q563
             try clear q564
             try clear q565
             try clear q566
             try clear q567
             try clear q568
             try clear q569
             try clear q570
             try clear q571
             try clear q572
             try clear q573
             try clear q574
             obtain ⟨kq, x147_66, rfl, HA, HJ66, HO_15, HO_17, HO_557001, BK540, BK541, BK556, HB⟩ := hcut
             cases kq with
             | zero => exact absurd HA.out (by simp [skewbaldlaw07_DappleMore.j3])
             | succ kj66 =>
              have H := HA.out
              clear HA
              simp only [skewbaldlaw07_DappleMore.j3] at H
              by_cases c80 : x147_66 = true
              ·subst c80
               have H1 : (some false) = some true := by rw [if_pos rfl] at H; exact H
               clear H
               have H := H1
               clear H1
               exact absurd H (by simp)
              ·replace c80 := Bool.eq_false_iff.mpr c80
               subst c80
               have H1 : (skewbaldlaw07_DappleMore.l2 kj66 t578 t582 0 a0_0 l0_1 t552 t553) = some true := by rw [if_neg (show ¬ (false = true) by decide)] at H; exact H
               clear H
               have H := H1
               clear H1
               have H' := Aside0.mk H
               clear H
               go_wp2
               go_loopg [19] kj66 (fun kq v19 w' => ∃ (x19_4 : Int), v19 = .int .i64 x19_4 ∧ Aside0 (skewbaldlaw07_DappleMore.l2 kq t578 t582 x19_4 a0_0 l0_1 t552 t553 = some true) ∧ Aside0 (kq ≤ kj66) ∧ Aside0 (Kd.V (Kd.int .i64) 3 w' w.heap.size (fun k_ => k_ ≠ gb540 ∧ k_ ≠ gb541 ∧ k_ ≠ gb556) v579 t578) ∧ Aside0 (Kd.V (Kd.int .i64) 3 w' w.heap.size (fun k_ => k_ ≠ gb540 ∧ k_ ≠ gb541 ∧ k_ ≠ gb556) v583 t582) ∧ Aside0 (Kd.V (Kd.slice 3 (Kd.int .i64)) 26 w' w.heap.size (fun k_ => k_ ≠ gb540 ∧ k_ ≠ gb541 ∧ k_ ≠ gb556) (.slice Ao31 t553.length co31) t553) ∧ Aside0 (w'.heap[gb540]? = some (.cells #[.int .i64 a0_0, (.slice (some ad546) l0_1.length c0_1)] 24 (0, 0))) ∧ Aside0 (w'.heap[gb541]? = some (.cells #[.int .i64 a1_0, .int .i64 a1_1, .int .i64 a1_2] 49 (0, 0))) ∧ Aside0 (w'.heap[gb556]? = some (.cells #[.int .i64 t552, (.slice Ao31 t553.length co31)] 24 (0, 0))) ∧ Aside0 (Below w.heap.size w w'))
               case atStart => exact ⟨(0), (by first | rfl | (simp; done) | (simp [*]; done)), H', ⟨Nat.le_refl _⟩, ⟨by (with_reducible repeat (first | apply Kd.V_alloc | apply Kd.V_drewN | apply Kd.V_drew)); exact HO_15.out⟩, ⟨by (with_reducible repeat (first | apply Kd.V_alloc | apply Kd.V_drewN | apply Kd.V_drew)); exact HO_17.out⟩, ⟨by (with_reducible repeat (first | apply Kd.V_alloc | apply Kd.V_drewN | apply Kd.V_drew)); exact HO_557001.out⟩, ⟨by (with_reducible repeat (first | refine blk_drewN ?_ _ | refine blk_drew ?_ | refine blk_alloc ?_ _)); exact BK540.out⟩, ⟨by (with_reducible repeat (first | refine blk_drewN ?_ _ | refine blk_drew ?_ | refine blk_alloc ?_ _)); exact BK541.out⟩, ⟨by (with_reducible repeat (first | refine blk_drewN ?_ _ | refine blk_drew ?_ | refine blk_alloc ?_ _)); exact BK556.out⟩, ⟨by repeat (first | (with_reducible first | exact HB.out | apply below_alloc | apply pw_below_drewN | apply below_drew1 | refine below_set ?_ GE540.out | refine below_set ?_ GE541.out | refine below_set ?_ GE556.out) | exact HB.out)⟩⟩
               case round =>
                clear H'
                try clear c2
                try clear p2
                try clear c3
                try clear c4
                try clear c5
                try clear p5
                try clear q5
                try clear hx5
                try clear c6
                try clear p6
                try clear c7
                try clear c8
                try clear c25
                try clear c37
                try clear c37b0
                try clear c37b1
                try clear c37b2
                try clear c38
                try clear c39
                try clear c40
                try clear c43
                try clear c44
                try clear c44b0
                try clear c46
                try clear c46b0
                try clear c47
                try clear c47b0
                try clear c48
                try clear c48b0
                try clear c49
                try clear c49b0
                try clear c50
                try clear c50b0
                try clear c51
                try clear c51b0
                try clear c51b1
                try clear c52
                try clear c52b0
                try clear c53
                try clear c53b0
                try clear c54
                try clear c54b0
                try clear c55
                try clear c55b0
                try clear c55b1
                try clear c56
                try clear c56b0
                try clear c56b1
                try clear p56
                try clear q56
                try clear hx56
                try clear c57
                try clear p57
                try clear q57
                try clear hx57
                try clear c59
                try clear c59b0
                try clear c59b1
                try clear c60
                try clear c60b0
                try clear c61
                try clear c61b0
                try clear c62
                try clear c62b0
                try clear c62b1
                try clear p64
                try clear c69
                try clear c70
                try clear c76
                try clear c79
                try clear c79b0
                try clear c79b1
                try clear c80
                try clear hcz41_0
                try clear hcz41_1
                try clear hcz71_0
                try clear hcz71_1
                try clear hcz73_0
                try clear hcz73_1
                try clear hcz77_0
                try clear hcz77_1
                try clear hfz41_0
                try clear hfz41_1
                try clear hfz71_0
                try clear hfz71_1
                try clear hfz73_0
                try clear hfz73_1
                try clear hfz77_0
                try clear hfz77_1
                try clear hx563_0
                try clear hx564_0
                try clear hx565_0
                try clear hx566_0
                try clear hx567_0
                try clear hx568_0
                try clear hx569_0
                try clear hx570_0
                try clear hx571_0
                try clear hx572_0
                try clear hx573_0
                try clear hx574_0
                try clear p2
                try clear p5
                try clear p56
                try clear p563
                try clear p564
                try clear p565
                try clear p566
                try clear p567
                try clear p568
                try clear p569
                try clear p57
                try clear p570
                try clear p571
                try clear p572
                try clear p573
                try clear p574
                try clear p6
                try clear p64
                try clear q5
                try clear q56
                try clear q563
                try clear q564
                try clear q565
                try clear q566
                try clear q567
                try clear q568
                try clear q569
                try clear q57
                try clear q570
                try clear q571
                try clear q572
                try clear q573
                try clear q574
                obtain ⟨x19_4, rfl, HA, HK4, HO_15, HO_17, HO_557001, BK540, BK541, BK556, HB⟩ := hrel
                cases gk with
                | zero => exact absurd HA.out (by simp [skewbaldlaw07_DappleMore.l2])
                | succ k4 =>
                 have H := HA.out
                 clear HA
                 simp only [skewbaldlaw07_DappleMore.l2] at H
                 by_cases c81 : x19_4 < (t582.length : Int)
                 ·rw [if_pos c81] at H
                  have c81b0 : decide (x19_4 < (t582.length : Int)) = true := decide_eq_true c81
                  clear c81
                  by_cases c82 : 0 ≤ x19_4
                  ·rw [if_pos c82] at H
                   have c82b0 : decide (0 ≤ x19_4) = true := decide_eq_true c82
                   clear c82
                   replace H := Option.bind_eq_some_iff.mp H
                   obtain ⟨t587, A830, H⟩ := H
                   replace H : (if t587 < 0 then (some false) else (skewbaldlaw07_DappleMore.l2 k4 t578 t582 (wrap64 (x19_4 + 1)) a0_0 l0_1 t552 t553)) = some true := H
                   have A83 := Aside0.mk A830
                   clear A830
                   by_cases c84 : t587 < 0
                   ·rw [if_pos c84] at H
                    have c84b0 : decide (t587 < 0) = true := decide_eq_true c84
                    clear c84
                    exact absurd H (by simp)
                   ·rw [if_neg c84] at H
                    have c84b0 : decide (t587 < 0) = false := decide_eq_false c84
                    clear c84
                    have H' := Aside0.mk H
                    clear H
                    obtain ⟨Ao85, co85, eo85⟩ := Kd.V_slice HO_17.out
                    subst eo85
                    have p586 : 0 ≤ (x19_4 : Int) := of_decide_eq_true (by first | (with_reducible assumption) | assumption)
                    have q586 : x19_4 < (t582.length : Int) := of_decide_eq_true (by first | (with_reducible assumption) | assumption)
                    obtain ⟨ad586, e586, hx586_0⟩ := Kd.at_int (Kd.V_reads' HO_17.out).2.2 x19_4 p586 q586
                    cases e586
                    replace p586 := eq_true p586
                    replace q586 := eq_true q586
                    obtain ⟨Ao86, co86, eo86⟩ := Kd.V_slice HO_15.out
                    subst eo86
                    go_wp2_with (first | ((with_reducible refine gate_callee (f := 33) rfl ?_); refine goesL_ (some 159) rfl rfl Tryd.func33 (by kernel_rfl) rfl #[.slice Ao86 t578.length co86, .int .i64 (rd t582 x19_4)] rfl (by (try simp only [List.map_toArray, List.map_cons, List.map_nil]); first | done | rfl | (simp only [List.length_drop, List.length_take]; rfl)) ?_; (with_reducible refine (skewbaldref00_Find.calls k4 _ _ t578 (rd t582 x19_4) t587 _ ?side1 ?side2 A83.out).mono ?_); (case side1 => repeat (first | exact (Kd.V_reads' HO_15.out).2.2 | (with_reducible refine Kd.C_alloc ?_ _) | (with_reducible refine Kd.C_drewN ?_ _) | (with_reducible refine Kd.C_drew ?_))); (case side2 => exact (Kd.V_reads' HO_15.out).2.1); rintro e w' ⟨rfl, ⟨nd, rfl⟩⟩; refine ⟨_, rfl, ?_⟩))
                    go_roundg k4
                    case measure => have := HJ16.out; have := HK2.out; have := HJ66.out; have := HK4.out; omega
                    case rel => exact ⟨(wrap64 (x19_4 + 1)), (by first | rfl | (simp; done) | (simp [*]; done)), H', ⟨by have := HJ16.out; have := HK2.out; have := HJ66.out; have := HK4.out; omega⟩, ⟨by (with_reducible repeat (first | apply Kd.V_alloc | apply Kd.V_drewN | apply Kd.V_drew)); exact HO_15.out⟩, ⟨by (with_reducible repeat (first | apply Kd.V_alloc | apply Kd.V_drewN | apply Kd.V_drew)); exact HO_17.out⟩, ⟨by (with_reducible repeat (first | apply Kd.V_alloc | apply Kd.V_drewN | apply Kd.V_drew)); exact HO_557001.out⟩, ⟨by (with_reducible repeat (first | refine blk_drewN ?_ _ | refine blk_drew ?_ | refine blk_alloc ?_ _)); exact BK540.out⟩, ⟨by (with_reducible repeat (first | refine blk_drewN ?_ _ | refine blk_drew ?_ | refine blk_alloc ?_ _)); exact BK541.out⟩, ⟨by (with_reducible repeat (first | refine blk_drewN ?_ _ | refine blk_drew ?_ | refine blk_alloc ?_ _)); exact BK556.out⟩, ⟨by repeat (first | (with_reducible first | exact HB.out | apply below_alloc | apply pw_below_drewN | apply below_drew1 | refine below_set ?_ GE540.out | refine below_set ?_ GE541.out | refine below_set ?_ GE556.out) | exact HB.out)⟩⟩
                  ·rw [if_neg c82] at H
                   exact absurd H (by simp)
                 ·rw [if_neg c81] at H
                  have c81b0 : decide (x19_4 < (t582.length : Int)) = false := decide_eq_false c81
                  clear c81
                  replace H := Option.bind_eq_some_iff.mp H
                  obtain ⟨⟨t588, t591⟩, A870, H⟩ := H
                  replace H : ((dapple_New.f t552 t553).bind fun bt592 => ((dapple_Drop.f a0_0 l0_1).bind fun bt596 => ((dapple_Drop.f t552 t553).bind fun bt600 => (if t591 = 0 then (if bt592.2 = 0 then ((skewbaldref00_Less.f k4 t588 bt592.1).bind fun t604 => (if t604 = true then (some false) else (if bt596.2 = 0 then (if bt600.2 = 0 then (if (bt600.1.length : Int) ≤ (bt596.1.length : Int) then ((skewbaldlaw07_pressed.f k4).bind fun t605 => (some t605)) else (some false)) else (some false)) else (some false)))) else (some false)) else (if bt596.2 = 0 then (if bt600.2 = 0 then (if (bt600.1.length : Int) ≤ (bt596.1.length : Int) then ((skewbaldlaw07_pressed.f k4).bind fun t606 => (some t606)) else (some false)) else (some false)) else (some false)))))) = some true := H
                  have A87 := Aside0.mk A870
                  clear A870
                  replace H := Option.bind_eq_some_iff.mp H
                  obtain ⟨⟨t592, t595⟩, A880, H⟩ := H
                  replace H : ((dapple_Drop.f a0_0 l0_1).bind fun bt596 => ((dapple_Drop.f t552 t553).bind fun bt600 => (if t591 = 0 then (if t595 = 0 then ((skewbaldref00_Less.f k4 t588 t592).bind fun t604 => (if t604 = true then (some false) else (if bt596.2 = 0 then (if bt600.2 = 0 then (if (bt600.1.length : Int) ≤ (bt596.1.length : Int) then ((skewbaldlaw07_pressed.f k4).bind fun t605 => (some t605)) else (some false)) else (some false)) else (some false)))) else (some false)) else (if bt596.2 = 0 then (if bt600.2 = 0 then (if (bt600.1.length : Int) ≤ (bt596.1.length : Int) then ((skewbaldlaw07_pressed.f k4).bind fun t606 => (some t606)) else (some false)) else (some false)) else (some false))))) = some true := H
                  have A88 := Aside0.mk A880
                  clear A880
                  replace H := Option.bind_eq_some_iff.mp H
                  obtain ⟨⟨t596, t599⟩, A890, H⟩ := H
                  replace H : ((dapple_Drop.f t552 t553).bind fun bt600 => (if t591 = 0 then (if t595 = 0 then ((skewbaldref00_Less.f k4 t588 t592).bind fun t604 => (if t604 = true then (some false) else (if t599 = 0 then (if bt600.2 = 0 then (if (bt600.1.length : Int) ≤ (t596.length : Int) then ((skewbaldlaw07_pressed.f k4).bind fun t605 => (some t605)) else (some false)) else (some false)) else (some false)))) else (some false)) else (if t599 = 0 then (if bt600.2 = 0 then (if (bt600.1.length : Int) ≤ (t596.length : Int) then ((skewbaldlaw07_pressed.f k4).bind fun t606 => (some t606)) else (some false)) else (some false)) else (some false)))) = some true := H
                  have A89 := Aside0.mk A890
                  clear A890
                  replace H := Option.bind_eq_some_iff.mp H
                  obtain ⟨⟨t600, t603⟩, A900, H⟩ := H
                  replace H : (if t591 = 0 then (if t595 = 0 then ((skewbaldref00_Less.f k4 t588 t592).bind fun t604 => (if t604 = true then (some false) else (if t599 = 0 then (if t603 = 0 then (if (t600.length : Int) ≤ (t596.length : Int) then ((skewbaldlaw07_pressed.f k4).bind fun t605 => (some t605)) else (some false)) else (some false)) else (some false)))) else (some false)) else (if t599 = 0 then (if t603 = 0 then (if (t600.length : Int) ≤ (t596.length : Int) then ((skewbaldlaw07_pressed.f k4).bind fun t606 => (some t606)) else (some false)) else (some false)) else (some false))) = some true := H
                  have A90 := Aside0.mk A900
                  clear A900
                  by_cases c91 : t591 = 0
                  ·rw [if_pos c91] at H
                   have c91b0 : (t591 == 0) = true := beq_iff_eq.mpr c91
                   have c91b1 : (t591 != 0) = false := bne_eq_false_iff_eq.mpr c91
                   clear c91
                   by_cases c92 : t595 = 0
                   ·rw [if_pos c92] at H
                    have c92b0 : (t595 == 0) = true := beq_iff_eq.mpr c92
                    have c92b1 : (t595 != 0) = false := bne_eq_false_iff_eq.mpr c92
                    clear c92
                    replace H := Option.bind_eq_some_iff.mp H
                    obtain ⟨t604, A930, H⟩ := H
                    replace H : (if t604 = true then (some false) else (if t599 = 0 then (if t603 = 0 then (if (t600.length : Int) ≤ (t596.length : Int) then ((skewbaldlaw07_pressed.f k4).bind fun t605 => (some t605)) else (some false)) else (some false)) else (some false))) = some true := H
                    have A93 := Aside0.mk A930
                    clear A930
                    by_cases c94 : t604 = true
                    ·subst c94
                     have H1 : (some false) = some true := by rw [if_pos rfl] at H; exact H
                     clear H
                     have H := H1
                     clear H1
                     exact absurd H (by simp)
                    ·replace c94 := Bool.eq_false_iff.mpr c94
                     subst c94
                     have H1 : (if t599 = 0 then (if t603 = 0 then (if (t600.length : Int) ≤ (t596.length : Int) then ((skewbaldlaw07_pressed.f k4).bind fun t605 => (some t605)) else (some false)) else (some false)) else (some false)) = some true := by rw [if_neg (show ¬ (false = true) by decide)] at H; exact H
                     clear H
                     have H := H1
                     clear H1
                     by_cases c95 : t599 = 0
                     ·rw [if_pos c95] at H
                      have c95b0 : (t599 == 0) = true := beq_iff_eq.mpr c95
                      have c95b1 : (t599 != 0) = false := bne_eq_false_iff_eq.mpr c95
                      clear c95
                      by_cases c96 : t603 = 0
                      ·rw [if_pos c96] at H
                       have c96b0 : (t603 == 0) = true := beq_iff_eq.mpr c96
                       have c96b1 : (t603 != 0) = false := bne_eq_false_iff_eq.mpr c96
                       clear c96
                       by_cases c97 : (t600.length : Int) ≤ (t596.length : Int)
                       ·rw [if_pos c97] at H
                        have c97b0 : decide ((t600.length : Int) ≤ (t596.length : Int)) = true := decide_eq_true c97
                        have c97b1 : decide (t600.length ≤ t596.length) = true := decide_eq_true (Int.ofNat_le.mp c97)
                        clear c97
                        replace H := Option.bind_eq_some_iff.mp H
                        obtain ⟨t605, A980, H⟩ := H
                        replace H : (some t605) = some true := H
                        have A98 := Aside0.mk A980
                        clear A980
                        have HE_ := Aside0.mk (Option.some.inj H)
                        clear H
                        obtain ⟨Ao99, co99, eo99⟩ := Kd.V_slice HO_17.out
                        subst eo99
                        have hnb100 := NB540_541.out
                        have hnc100 := NB541_540.out
                        have hnb101 := NB540_556.out
                        have hnc101 := NB556_540.out
                        have hcz102_0 : wr.cell? ⟨gb540, 0, none⟩ = some (.int .i64 a0_0) := (blk_cell BK540.out 0).trans rfl
                        have hcz102_1 : wr.cell? ⟨gb540, 1, none⟩ = some (.slice (some ad546) l0_1.length c0_1) := (blk_cell BK540.out 1).trans rfl
                        have hfz102_0 := blk_frozen BK540.out 0
                        have hfz102_1 := blk_frozen BK540.out 1
                        go_wp2_with (first | ((with_reducible refine gate_callee (f := 27) rfl ?_); refine goesL_ (some 163) rfl rfl Tryd.func27 (by kernel_rfl) rfl #[.agg #[.int .i64 a0_0, .slice (some ad546) l0_1.length c0_1]] rfl (by (try simp only [List.map_toArray, List.map_cons, List.map_nil]); first | done | rfl | (simp only [List.length_drop, List.length_take]; rfl)) ?_; (with_reducible refine (dapple_New.calls a0_0 _ _ l0_1 t588 t591 _ ?side1 ?side2 ?side3 A87.out).mono ?_); (case side1 => repeat (first | exact (Kd.C_below HR0_1.out HB.out) | (with_reducible refine Kd.C_alloc ?_ _) | (with_reducible refine Kd.C_drewN ?_ _) | (with_reducible refine Kd.C_drew ?_))); (case side2 => exact HC0_1.out); (case side3 => exact Glob.below HGL.out (by repeat (first | (with_reducible first | exact HB.out | apply below_alloc | apply pw_below_drewN | apply below_drew1 | refine below_set ?_ GE540.out | refine below_set ?_ GE541.out | refine below_set ?_ GE556.out) | exact HB.out))); rintro e w103 ⟨v589, rfl, ho0, hb⟩; refine ⟨_, rfl, ?_⟩; have n0_ := Aside0.mk (Kd.V_below (by (with_reducible repeat (first | apply Kd.V_alloc | apply Kd.V_drewN | apply Kd.V_drew)); exact HO_15.out) hb); have n1_ := Aside0.mk (Kd.V_below (by (with_reducible repeat (first | apply Kd.V_alloc | apply Kd.V_drewN | apply Kd.V_drew)); exact HO_17.out) hb); have n2_ := Aside0.mk (Kd.V_below (by (with_reducible repeat (first | apply Kd.V_alloc | apply Kd.V_drewN | apply Kd.V_drew)); exact HO_557001.out) hb); have n3_ := Aside0.mk (Kd.V_lower (Kd.V_mono (ok' := fun k_ => k_ ≠ gb540 ∧ k_ ≠ gb541 ∧ k_ ≠ gb556) ho0 (fun k_ hk_ => ⟨(Kd.freshB (g := gb540) (o := .cells #[.int .i64 a0_0, .slice (some ad546) l0_1.length c0_1] 24 (0, 0)) (by (with_reducible repeat (first | refine blk_drewN ?_ _ | refine blk_drew ?_ | refine blk_alloc ?_ _)); exact BK540.out) k_ hk_), (Kd.freshB (g := gb541) (o := .cells #[.int .i64 a1_0, .int .i64 a1_1, .int .i64 a1_2] 49 (0, 0)) (by (with_reducible repeat (first | refine blk_drewN ?_ _ | refine blk_drew ?_ | refine blk_alloc ?_ _)); exact BK541.out) k_ hk_), (Kd.freshB (g := gb556) (o := .cells #[.int .i64 t552, .slice Ao31 t553.length co31] 24 (0, 0)) (by (with_reducible repeat (first | refine blk_drewN ?_ _ | refine blk_drew ?_ | refine blk_alloc ?_ _)); exact BK556.out) k_ hk_)⟩)) (below_size (by repeat (first | (with_reducible first | exact HB.out | apply below_alloc | apply pw_below_drewN | apply below_drew1 | refine below_set ?_ GE540.out | refine below_set ?_ GE541.out | refine below_set ?_ GE556.out) | exact HB.out)))); have n4_ := Aside0.mk (blk_below (g := gb540) (o := .cells #[.int .i64 a0_0, .slice (some ad546) l0_1.length c0_1] 24 (0, 0)) (by (with_reducible repeat (first | refine blk_drewN ?_ _ | refine blk_drew ?_ | refine blk_alloc ?_ _)); exact BK540.out) hb); have n5_ := Aside0.mk (blk_below (g := gb541) (o := .cells #[.int .i64 a1_0, .int .i64 a1_1, .int .i64 a1_2] 49 (0, 0)) (by (with_reducible repeat (first | refine blk_drewN ?_ _ | refine blk_drew ?_ | refine blk_alloc ?_ _)); exact BK541.out) hb); have n6_ := Aside0.mk (blk_below (g := gb556) (o := .cells #[.int .i64 t552, .slice Ao31 t553.length co31] 24 (0, 0)) (by (with_reducible repeat (first | refine blk_drewN ?_ _ | refine blk_drew ?_ | refine blk_alloc ?_ _)); exact BK556.out) hb); have n7_ := Aside0.mk (below_step (by repeat (first | (with_reducible first | exact HB.out | apply below_alloc | apply pw_below_drewN | apply below_drew1 | refine below_set ?_ GE540.out | refine below_set ?_ GE541.out | refine below_set ?_ GE556.out) | exact HB.out)) hb); clear HO_15; clear HO_17; clear HO_557001; clear BK540; clear BK541; clear BK556; clear HB; have HO_15 := n0_; have HO_17 := n1_; have HO_557001 := n2_; have HO590 := n3_; have BK540 := n4_; have BK541 := n5_; have BK556 := n6_; have HB := n7_; clear n0_ n1_ n2_ n3_ n4_ n5_ n6_ n7_; (try clear hb); (try clear hb2); (try clear hk); (try clear hi); (try clear ho0); have hnb104 := NB556_541.out; have hnc104 := NB541_556.out; have hcz105_0 : w103.cell? ⟨gb556, 0, none⟩ = some (.int .i64 t552) := (blk_cell BK556.out 0).trans rfl; have hcz105_1 : w103.cell? ⟨gb556, 1, none⟩ = some (.slice Ao31 t553.length co31) := (blk_cell BK556.out 1).trans rfl; have hfz105_0 := blk_frozen BK556.out 0; have hfz105_1 := blk_frozen BK556.out 1) | ((with_reducible refine gate_callee (f := 27) rfl ?_); refine goesL_ (some 168) rfl rfl Tryd.func27 (by kernel_rfl) rfl #[.agg #[.int .i64 t552, .slice Ao31 t553.length co31]] rfl (by (try simp only [List.map_toArray, List.map_cons, List.map_nil]); first | done | rfl | (simp only [List.length_drop, List.length_take]; rfl)) ?_; (with_reducible refine (dapple_New.calls t552 _ _ t553 t592 t595 _ ?side1 ?side2 ?side3 A88.out).mono ?_); (case side1 => repeat (first | exact (Kd.V_reads' HO_557001.out).2.2 | (with_reducible refine Kd.C_alloc ?_ _) | (with_reducible refine Kd.C_drewN ?_ _) | (with_reducible refine Kd.C_drew ?_))); (case side2 => exact (Kd.V_reads' HO_557001.out).2.1); (case side3 => exact Glob.below HGL.out (by repeat (first | (with_reducible first | exact HB.out | apply below_alloc | apply pw_below_drewN | apply below_drew1 | refine below_set ?_ GE540.out | refine below_set ?_ GE541.out | refine below_set ?_ GE556.out) | exact HB.out))); rintro e w106 ⟨v593, rfl, ho0, hb⟩; refine ⟨_, rfl, ?_⟩; have n0_ := Aside0.mk (Kd.V_below (by (with_reducible repeat (first | apply Kd.V_alloc | apply Kd.V_drewN | apply Kd.V_drew)); exact HO_15.out) hb); have n1_ := Aside0.mk (Kd.V_below (by (with_reducible repeat (first | apply Kd.V_alloc | apply Kd.V_drewN | apply Kd.V_drew)); exact HO_17.out) hb); have n2_ := Aside0.mk (Kd.V_below (by (with_reducible repeat (first | apply Kd.V_alloc | apply Kd.V_drewN | apply Kd.V_drew)); exact HO_557001.out) hb); have n3_ := Aside0.mk (Kd.V_below (by (with_reducible repeat (first | apply Kd.V_alloc | apply Kd.V_drewN | apply Kd.V_drew)); exact HO590.out) hb); have n4_ := Aside0.mk (Kd.V_lower (Kd.V_mono (ok' := fun k_ => k_ ≠ gb540 ∧ k_ ≠ gb541 ∧ k_ ≠ gb556) ho0 (fun k_ hk_ => ⟨(Kd.freshB (g := gb540) (o := .cells #[.int .i64 a0_0, .slice (some ad546) l0_1.length c0_1] 24 (0, 0)) (by (with_reducible repeat (first | refine blk_drewN ?_ _ | refine blk_drew ?_ | refine blk_alloc ?_ _)); exact BK540.out) k_ hk_), (Kd.freshB (g := gb541) (o := .cells #[.int .i64 a1_0, .int .i64 a1_1, .int .i64 a1_2] 49 (0, 0)) (by (with_reducible repeat (first | refine blk_drewN ?_ _ | refine blk_drew ?_ | refine blk_alloc ?_ _)); exact BK541.out) k_ hk_), (Kd.freshB (g := gb556) (o := .cells #[.int .i64 t552, .slice Ao31 t553.length co31] 24 (0, 0)) (by (with_reducible repeat (first | refine blk_drewN ?_ _ | refine blk_drew ?_ | refine blk_alloc ?_ _)); exact BK556.out) k_ hk_)⟩)) (below_size (by repeat (first | (with_reducible first | exact HB.out | apply below_alloc | apply pw_below_drewN | apply below_drew1 | refine below_set ?_ GE540.out | refine below_set ?_ GE541.out | refine below_set ?_ GE556.out) | exact HB.out)))); have n5_ := Aside0.mk (blk_below (g := gb540) (o := .cells #[.int .i64 a0_0, .slice (some ad546) l0_1.length c0_1] 24 (0, 0)) (by (with_reducible repeat (first | refine blk_drewN ?_ _ | refine blk_drew ?_ | refine blk_alloc ?_ _)); exact BK540.out) hb); have n6_ := Aside0.mk (blk_below (g := gb541) (o := .cells #[.int .i64 a1_0, .int .i64 a1_1, .int .i64 a1_2] 49 (0, 0)) (by (with_reducible repeat (first | refine blk_drewN ?_ _ | refine blk_drew ?_ | refine blk_alloc ?_ _)); exact BK541.out) hb); have n7_ := Aside0.mk (blk_below (g := gb556) (o := .cells #[.int .i64 t552, .slice Ao31 t553.length co31] 24 (0, 0)) (by (with_reducible repeat (first | refine blk_drewN ?_ _ | refine blk_drew ?_ | refine blk_alloc ?_ _)); exact BK556.out) hb); have n8_ := Aside0.mk (below_step (by repeat (first | (with_reducible first | exact HB.out | apply below_alloc | apply pw_below_drewN | apply below_drew1 | refine below_set ?_ GE540.out | refine below_set ?_ GE541.out | refine below_set ?_ GE556.out) | exact HB.out)) hb); clear HO_15; clear HO_17; clear HO_557001; clear HO590; clear BK540; clear BK541; clear BK556; clear HB; have HO_15 := n0_; have HO_17 := n1_; have HO_557001 := n2_; have HO590 := n3_; have HO594 := n4_; have BK540 := n5_; have BK541 := n6_; have BK556 := n7_; have HB := n8_; clear n0_ n1_ n2_ n3_ n4_ n5_ n6_ n7_ n8_; (try clear hb); (try clear hb2); (try clear hk); (try clear hi); (try clear ho0); have hcz107_0 : w106.cell? ⟨gb540, 0, none⟩ = some (.int .i64 a0_0) := (blk_cell BK540.out 0).trans rfl; have hcz107_1 : w106.cell? ⟨gb540, 1, none⟩ = some (.slice (some ad546) l0_1.length c0_1) := (blk_cell BK540.out 1).trans rfl; have hfz107_0 := blk_frozen BK540.out 0; have hfz107_1 := blk_frozen BK540.out 1) | ((with_reducible refine gate_callee (f := 42) rfl ?_); refine goesL_ (some 173) rfl rfl Tryd.func42 (by kernel_rfl) rfl #[.agg #[.int .i64 a0_0, .slice (some ad546) l0_1.length c0_1]] rfl (by (try simp only [List.map_toArray, List.map_cons, List.map_nil]); first | done | rfl | (simp only [List.length_drop, List.length_take]; rfl)) ?_; (with_reducible refine (dapple_Drop.calls a0_0 _ _ l0_1 t596 t599 _ ?side1 ?side2 ?side3 A89.out).mono ?_); (case side1 => repeat (first | exact (Kd.C_below HR0_1.out HB.out) | (with_reducible refine Kd.C_alloc ?_ _) | (with_reducible refine Kd.C_drewN ?_ _) | (with_reducible refine Kd.C_drew ?_))); (case side2 => exact HC0_1.out); (case side3 => exact Glob.below HGL.out (by repeat (first | (with_reducible first | exact HB.out | apply below_alloc | apply pw_below_drewN | apply below_drew1 | refine below_set ?_ GE540.out | refine below_set ?_ GE541.out | refine below_set ?_ GE556.out) | exact HB.out))); rintro e w108 ⟨v597, rfl, ho0, hb⟩; refine ⟨_, rfl, ?_⟩; have n0_ := Aside0.mk (Kd.V_below (by (with_reducible repeat (first | apply Kd.V_alloc | apply Kd.V_drewN | apply Kd.V_drew)); exact HO_15.out) hb); have n1_ := Aside0.mk (Kd.V_below (by (with_reducible repeat (first | apply Kd.V_alloc | apply Kd.V_drewN | apply Kd.V_drew)); exact HO_17.out) hb); have n2_ := Aside0.mk (Kd.V_below (by (with_reducible repeat (first | apply Kd.V_alloc | apply Kd.V_drewN | apply Kd.V_drew)); exact HO_557001.out) hb); have n3_ := Aside0.mk (Kd.V_below (by (with_reducible repeat (first | apply Kd.V_alloc | apply Kd.V_drewN | apply Kd.V_drew)); exact HO590.out) hb); have n4_ := Aside0.mk (Kd.V_below (by (with_reducible repeat (first | apply Kd.V_alloc | apply Kd.V_drewN | apply Kd.V_drew)); exact HO594.out) hb); have n5_ := Aside0.mk (Kd.V_lower (Kd.V_mono (ok' := fun k_ => k_ ≠ gb540 ∧ k_ ≠ gb541 ∧ k_ ≠ gb556) ho0 (fun k_ hk_ => ⟨(Kd.freshB (g := gb540) (o := .cells #[.int .i64 a0_0, .slice (some ad546) l0_1.length c0_1] 24 (0, 0)) (by (with_reducible repeat (first | refine blk_drewN ?_ _ | refine blk_drew ?_ | refine blk_alloc ?_ _)); exact BK540.out) k_ hk_), (Kd.freshB (g := gb541) (o := .cells #[.int .i64 a1_0, .int .i64 a1_1, .int .i64 a1_2] 49 (0, 0)) (by (with_reducible repeat (first | refine blk_drewN ?_ _ | refine blk_drew ?_ | refine blk_alloc ?_ _)); exact BK541.out) k_ hk_), (Kd.freshB (g := gb556) (o := .cells #[.int .i64 t552, .slice Ao31 t553.length co31] 24 (0, 0)) (by (with_reducible repeat (first | refine blk_drewN ?_ _ | refine blk_drew ?_ | refine blk_alloc ?_ _)); exact BK556.out) k_ hk_)⟩)) (below_size (by repeat (first | (with_reducible first | exact HB.out | apply below_alloc | apply pw_below_drewN | apply below_drew1 | refine below_set ?_ GE540.out | refine below_set ?_ GE541.out | refine below_set ?_ GE556.out) | exact HB.out)))); have n6_ := Aside0.mk (blk_below (g := gb540) (o := .cells #[.int .i64 a0_0, .slice (some ad546) l0_1.length c0_1] 24 (0, 0)) (by (with_reducible repeat (first | refine blk_drewN ?_ _ | refine blk_drew ?_ | refine blk_alloc ?_ _)); exact BK540.out) hb); have n7_ := Aside0.mk (blk_below (g := gb541) (o := .cells #[.int .i64 a1_0, .int .i64 a1_1, .int .i64 a1_2] 49 (0, 0)) (by (with_reducible repeat (first | refine blk_drewN ?_ _ | refine blk_drew ?_ | refine blk_alloc ?_ _)); exact BK541.out) hb); have n8_ := Aside0.mk (blk_below (g := gb556) (o := .cells #[.int .i64 t552, .slice Ao31 t553.length co31] 24 (0, 0)) (by (with_reducible repeat (first | refine blk_drewN ?_ _ | refine blk_drew ?_ | refine blk_alloc ?_ _)); exact BK556.out) hb); have n9_ := Aside0.mk (below_step (by repeat (first | (with_reducible first | exact HB.out | apply below_alloc | apply pw_below_drewN | apply below_drew1 | refine below_set ?_ GE540.out | refine below_set ?_ GE541.out | refine below_set ?_ GE556.out) | exact HB.out)) hb); clear HO_15; clear HO_17; clear HO_557001; clear HO590; clear HO594; clear BK540; clear BK541; clear BK556; clear HB; have HO_15 := n0_; have HO_17 := n1_; have HO_557001 := n2_; have HO590 := n3_; have HO594 := n4_; have HO598 := n5_; have BK540 := n6_; have BK541 := n7_; have BK556 := n8_; have HB := n9_; clear n0_ n1_ n2_ n3_ n4_ n5_ n6_ n7_ n8_ n9_; (try clear hb); (try clear hb2); (try clear hk); (try clear hi); (try clear ho0); have hcz109_0 : w108.cell? ⟨gb556, 0, none⟩ = some (.int .i64 t552) := (blk_cell BK556.out 0).trans rfl; have hcz109_1 : w108.cell? ⟨gb556, 1, none⟩ = some (.slice Ao31 t553.length co31) := (blk_cell BK556.out 1).trans rfl; have hfz109_0 := blk_frozen BK556.out 0; have hfz109_1 := blk_frozen BK556.out 1) | ((with_reducible refine gate_callee (f := 42) rfl ?_); refine goesL_ (some 178) rfl rfl Tryd.func42 (by kernel_rfl) rfl #[.agg #[.int .i64 t552, .slice Ao31 t553.length co31]] rfl (by (try simp only [List.map_toArray, List.map_cons, List.map_nil]); first | done | rfl | (simp only [List.length_drop, List.length_take]; rfl)) ?_; (with_reducible refine (dapple_Drop.calls t552 _ _ t553 t600 t603 _ ?side1 ?side2 ?side3 A90.out).mono ?_); (case side1 => repeat (first | exact (Kd.V_reads' HO_557001.out).2.2 | (with_reducible refine Kd.C_alloc ?_ _) | (with_reducible refine Kd.C_drewN ?_ _) | (with_reducible refine Kd.C_drew ?_))); (case side2 => exact (Kd.V_reads' HO_557001.out).2.1); (case side3 => exact Glob.below HGL.out (by repeat (first | (with_reducible first | exact HB.out | apply below_alloc | apply pw_below_drewN | apply below_drew1 | refine below_set ?_ GE540.out | refine below_set ?_ GE541.out | refine below_set ?_ GE556.out) | exact HB.out))); rintro e w110 ⟨v601, rfl, ho0, hb⟩; refine ⟨_, rfl, ?_⟩; have n0_ := Aside0.mk (Kd.V_below (by (with_reducible repeat (first | apply Kd.V_alloc | apply Kd.V_drewN | apply Kd.V_drew)); exact HO_15.out) hb); have n1_ := Aside0.mk (Kd.V_below (by (with_reducible repeat (first | apply Kd.V_alloc | apply Kd.V_drewN | apply Kd.V_drew)); exact HO_17.out) hb); have n2_ := Aside0.mk (Kd.V_below (by (with_reducible repeat (first | apply Kd.V_alloc | apply Kd.V_drewN | apply Kd.V_drew)); exact HO_557001.out) hb); have n3_ := Aside0.mk (Kd.V_below (by (with_reducible repeat (first | apply Kd.V_alloc | apply Kd.V_drewN | apply Kd.V_drew)); exact HO590.out) hb); have n4_ := Aside0.mk (Kd.V_below (by (with_reducible repeat (first | apply Kd.V_alloc | apply Kd.V_drewN | apply Kd.V_drew)); exact HO594.out) hb); have n5_ := Aside0.mk (Kd.V_below (by (with_reducible repeat (first | apply Kd.V_alloc | apply Kd.V_drewN | apply Kd.V_drew)); exact HO598.out) hb); have n6_ := Aside0.mk (Kd.V_lower (Kd.V_mono (ok' := fun k_ => k_ ≠ gb540 ∧ k_ ≠ gb541 ∧ k_ ≠ gb556) ho0 (fun k_ hk_ => ⟨(Kd.freshB (g := gb540) (o := .cells #[.int .i64 a0_0, .slice (some ad546) l0_1.length c0_1] 24 (0, 0)) (by (with_reducible repeat (first | refine blk_drewN ?_ _ | refine blk_drew ?_ | refine blk_alloc ?_ _)); exact BK540.out) k_ hk_), (Kd.freshB (g := gb541) (o := .cells #[.int .i64 a1_0, .int .i64 a1_1, .int .i64 a1_2] 49 (0, 0)) (by (with_reducible repeat (first | refine blk_drewN ?_ _ | refine blk_drew ?_ | refine blk_alloc ?_ _)); exact BK541.out) k_ hk_), (Kd.freshB (g := gb556) (o := .cells #[.int .i64 t552, .slice Ao31 t553.length co31] 24 (0, 0)) (by (with_reducible repeat (first | refine blk_drewN ?_ _ | refine blk_drew ?_ | refine blk_alloc ?_ _)); exact BK556.out) k_ hk_)⟩)) (below_size (by repeat (first | (with_reducible first | exact HB.out | apply below_alloc | apply pw_below_drewN | apply below_drew1 | refine below_set ?_ GE540.out | refine below_set ?_ GE541.out | refine below_set ?_ GE556.out) | exact HB.out)))); have n7_ := Aside0.mk (blk_below (g := gb540) (o := .cells #[.int .i64 a0_0, .slice (some ad546) l0_1.length c0_1] 24 (0, 0)) (by (with_reducible repeat (first | refine blk_drewN ?_ _ | refine blk_drew ?_ | refine blk_alloc ?_ _)); exact BK540.out) hb); have n8_ := Aside0.mk (blk_below (g := gb541) (o := .cells #[.int .i64 a1_0, .int .i64 a1_1, .int .i64 a1_2] 49 (0, 0)) (by (with_reducible repeat (first | refine blk_drewN ?_ _ | refine blk_drew ?_ | refine blk_alloc ?_ _)); exact BK541.out) hb); have n9_ := Aside0.mk (blk_below (g := gb556) (o := .cells #[.int .i64 t552, .slice Ao31 t553.length co31] 24 (0, 0)) (by (with_reducible repeat (first | refine blk_drewN ?_ _ | refine blk_drew ?_ | refine blk_alloc ?_ _)); exact BK556.out) hb); have n10_ := Aside0.mk (below_step (by repeat (first | (with_reducible first | exact HB.out | apply below_alloc | apply pw_below_drewN | apply below_drew1 | refine below_set ?_ GE540.out | refine below_set ?_ GE541.out | refine below_set ?_ GE556.out) | exact HB.out)) hb); clear HO_15; clear HO_17; clear HO_557001; clear HO590; clear HO594; clear HO598; clear BK540; clear BK541; clear BK556; clear HB; have HO_15 := n0_; have HO_17 := n1_; have HO_557001 := n2_; have HO590 := n3_; have HO594 := n4_; have HO598 := n5_; have HO602 := n6_; have BK540 := n7_; have BK541 := n8_; have BK556 := n9_; have HB := n10_; clear n0_ n1_ n2_ n3_ n4_ n5_ n6_ n7_ n8_ n9_ n10_; (try clear hb); (try clear hb2); (try clear hk); (try clear hi); (try clear ho0); obtain ⟨Ao111, co111, eo111⟩ := Kd.V_slice HO590.out; subst eo111; obtain ⟨Ao112, co112, eo112⟩ := Kd.V_slice HO594.out; subst eo112) | (go_at_call 41; (with_reducible refine (skewbaldref00_Less.calls k4 _ _ t588 _ _ t592 false _ ?side1 ?side2 ?side3 ?side4 A93.out).mono ?_); (case side1 => repeat (first | exact (Kd.V_reads' HO590.out).2.2 | (with_reducible refine Kd.C_alloc ?_ _) | (with_reducible refine Kd.C_drewN ?_ _) | (with_reducible refine Kd.C_drew ?_))); (case side2 => exact (Kd.V_reads' HO590.out).2.1); (case side3 => repeat (first | exact (Kd.V_reads' HO594.out).2.2 | (with_reducible refine Kd.C_alloc ?_ _) | (with_reducible refine Kd.C_drewN ?_ _) | (with_reducible refine Kd.C_drew ?_))); (case side4 => exact (Kd.V_reads' HO594.out).2.1); rintro e w' ⟨rfl, ⟨nd, rfl⟩⟩; obtain ⟨Ao113, co113, eo113⟩ := Kd.V_slice HO602.out; subst eo113; obtain ⟨Ao114, co114, eo114⟩ := Kd.V_slice HO598.out; subst eo114) | (go_at_call 24; (with_reducible refine (skewbaldlaw07_pressed.calls k4  t605 _ ?side1 A98.out).mono ?_); (case side1 => exact Glob.below HGL.out (by repeat (first | (with_reducible first | exact HB.out | apply below_alloc | apply pw_below_drewN | apply below_drew1 | refine below_set ?_ GE540.out | refine below_set ?_ GE541.out | refine below_set ?_ GE556.out) | exact HB.out))); rintro e w115 ⟨rfl, hb⟩; have n0_ := Aside0.mk (Kd.V_below (by (with_reducible repeat (first | apply Kd.V_alloc | apply Kd.V_drewN | apply Kd.V_drew)); exact HO_15.out) hb); have n1_ := Aside0.mk (Kd.V_below (by (with_reducible repeat (first | apply Kd.V_alloc | apply Kd.V_drewN | apply Kd.V_drew)); exact HO_17.out) hb); have n2_ := Aside0.mk (Kd.V_below (by (with_reducible repeat (first | apply Kd.V_alloc | apply Kd.V_drewN | apply Kd.V_drew)); exact HO_557001.out) hb); have n3_ := Aside0.mk (Kd.V_below (by (with_reducible repeat (first | apply Kd.V_alloc | apply Kd.V_drewN | apply Kd.V_drew)); exact HO590.out) hb); have n4_ := Aside0.mk (Kd.V_below (by (with_reducible repeat (first | apply Kd.V_alloc | apply Kd.V_drewN | apply Kd.V_drew)); exact HO594.out) hb); have n5_ := Aside0.mk (Kd.V_below (by (with_reducible repeat (first | apply Kd.V_alloc | apply Kd.V_drewN | apply Kd.V_drew)); exact HO598.out) hb); have n6_ := Aside0.mk (Kd.V_below (by (with_reducible repeat (first | apply Kd.V_alloc | apply Kd.V_drewN | apply Kd.V_drew)); exact HO602.out) hb); have n7_ := Aside0.mk (blk_below (g := gb540) (o := .cells #[.int .i64 a0_0, .slice (some ad546) l0_1.length c0_1] 24 (0, 0)) (by (with_reducible repeat (first | refine blk_drewN ?_ _ | refine blk_drew ?_ | refine blk_alloc ?_ _)); exact BK540.out) hb); have n8_ := Aside0.mk (blk_below (g := gb541) (o := .cells #[.int .i64 a1_0, .int .i64 a1_1, .int .i64 a1_2] 49 (0, 0)) (by (with_reducible repeat (first | refine blk_drewN ?_ _ | refine blk_drew ?_ | refine blk_alloc ?_ _)); exact BK541.out) hb); have n9_ := Aside0.mk (blk_below (g := gb556) (o := .cells #[.int .i64 t552, .slice Ao31 t553.length co31] 24 (0, 0)) (by (with_reducible repeat (first | refine blk_drewN ?_ _ | refine blk_drew ?_ | refine blk_alloc ?_ _)); exact BK556.out) hb); have n10_ := Aside0.mk (below_step (by repeat (first | (with_reducible first | exact HB.out | apply below_alloc | apply pw_below_drewN | apply below_drew1 | refine below_set ?_ GE540.out | refine below_set ?_ GE541.out | refine below_set ?_ GE556.out) | exact HB.out)) hb); clear HO_15; clear HO_17; clear HO_557001; clear HO590; clear HO594; clear HO598; clear HO602; clear BK540; clear BK541; clear BK556; clear HB; have HO_15 := n0_; have HO_17 := n1_; have HO_557001 := n2_; have HO590 := n3_; have HO594 := n4_; have HO598 := n5_; have HO602 := n6_; have BK540 := n7_; have BK541 := n8_; have BK556 := n9_; have HB := n10_; clear n0_ n1_ n2_ n3_ n4_ n5_ n6_ n7_ n8_ n9_ n10_; (try clear hb); (try clear hb2); (try clear hk); (try clear hi)))
                        go_ret
                        exact ⟨by first | rfl | (rw [HE_.out]; done) | (simp [HE_.out]; done) | (simp [errW_none, errW_some] <;> rfl) | (simp [*, errW_none, errW_some] <;> rfl), by repeat (first | (with_reducible first | exact HB.out | apply below_alloc | apply pw_below_drewN | apply below_drew1 | refine below_set ?_ GE540.out | refine below_set ?_ GE541.out | refine below_set ?_ GE556.out) | exact HB.out)⟩
                       ·rw [if_neg c97] at H
                        have c97b0 : decide ((t600.length : Int) ≤ (t596.length : Int)) = false := decide_eq_false c97
                        have c97b1 : decide (t600.length ≤ t596.length) = false := decide_eq_false (fun h => c97 (Int.ofNat_le.mpr h))
                        clear c97
                        exact absurd H (by simp)
                      ·rw [if_neg c96] at H
                       have c96b0 : (t603 == 0) = false := beq_eq_false_iff_ne.mpr c96
                       have c96b1 : (t603 != 0) = true := bne_iff_ne.mpr c96
                       exact absurd H (by simp)
                     ·rw [if_neg c95] at H
                      have c95b0 : (t599 == 0) = false := beq_eq_false_iff_ne.mpr c95
                      have c95b1 : (t599 != 0) = true := bne_iff_ne.mpr c95
                      exact absurd H (by simp)
                   ·rw [if_neg c92] at H
                    have c92b0 : (t595 == 0) = false := beq_eq_false_iff_ne.mpr c92
                    have c92b1 : (t595 != 0) = true := bne_iff_ne.mpr c92
                    exact absurd H (by simp)
                  ·rw [if_neg c91] at H
                   have c91b0 : (t591 == 0) = false := beq_eq_false_iff_ne.mpr c91
                   have c91b1 : (t591 != 0) = true := bne_iff_ne.mpr c91
                   by_cases c116 : t599 = 0
                   ·rw [if_pos c116] at H
                    have c116b0 : (t599 == 0) = true := beq_iff_eq.mpr c116
                    have c116b1 : (t599 != 0) = false := bne_eq_false_iff_eq.mpr c116
                    clear c116
                    by_cases c117 : t603 = 0
                    ·rw [if_pos c117] at H
                     have c117b0 : (t603 == 0) = true := beq_iff_eq.mpr c117
                     have c117b1 : (t603 != 0) = false := bne_eq_false_iff_eq.mpr c117
                     clear c117
                     by_cases c118 : (t600.length : Int) ≤ (t596.length : Int)
                     ·rw [if_pos c118] at H
                      have c118b0 : decide ((t600.length : Int) ≤ (t596.length : Int)) = true := decide_eq_true c118
                      have c118b1 : decide (t600.length ≤ t596.length) = true := decide_eq_true (Int.ofNat_le.mp c118)
                      clear c118
                      replace H := Option.bind_eq_some_iff.mp H
                      obtain ⟨t606, A1190, H⟩ := H
                      replace H : (some t606) = some true := H
                      have A119 := Aside0.mk A1190
                      clear A1190
                      have HE_ := Aside0.mk (Option.some.inj H)
                      clear H
                      obtain ⟨Ao120, co120, eo120⟩ := Kd.V_slice HO_17.out
                      subst eo120
                      have hnb121 := NB540_541.out
                      have hnc121 := NB541_540.out
                      have hnb122 := NB540_556.out
                      have hnc122 := NB556_540.out
                      have hcz123_0 : wr.cell? ⟨gb540, 0, none⟩ = some (.int .i64 a0_0) := (blk_cell BK540.out 0).trans rfl
                      have hcz123_1 : wr.cell? ⟨gb540, 1, none⟩ = some (.slice (some ad546) l0_1.length c0_1) := (blk_cell BK540.out 1).trans rfl
                      have hfz123_0 := blk_frozen BK540.out 0
                      have hfz123_1 := blk_frozen BK540.out 1
                      go_wp2_with (first | ((with_reducible refine gate_callee (f := 27) rfl ?_); refine goesL_ (some 163) rfl rfl Tryd.func27 (by kernel_rfl) rfl #[.agg #[.int .i64 a0_0, .slice (some ad546) l0_1.length c0_1]] rfl (by (try simp only [List.map_toArray, List.map_cons, List.map_nil]); first | done | rfl | (simp only [List.length_drop, List.length_take]; rfl)) ?_; (with_reducible refine (dapple_New.calls a0_0 _ _ l0_1 t588 t591 _ ?side1 ?side2 ?side3 A87.out).mono ?_); (case side1 => repeat (first | exact (Kd.C_below HR0_1.out HB.out) | (with_reducible refine Kd.C_alloc ?_ _) | (with_reducible refine Kd.C_drewN ?_ _) | (with_reducible refine Kd.C_drew ?_))); (case side2 => exact HC0_1.out); (case side3 => exact Glob.below HGL.out (by repeat (first | (with_reducible first | exact HB.out | apply below_alloc | apply pw_below_drewN | apply below_drew1 | refine below_set ?_ GE540.out | refine below_set ?_ GE541.out | refine below_set ?_ GE556.out) | exact HB.out))); rintro e w124 ⟨v589, rfl, ho0, hb⟩; refine ⟨_, rfl, ?_⟩; have n0_ := Aside0.mk (Kd.V_below (by (with_reducible repeat (first | apply Kd.V_alloc | apply Kd.V_drewN | apply Kd.V_drew)); exact HO_15.out) hb); have n1_ := Aside0.mk (Kd.V_below (by (with_reducible repeat (first | apply Kd.V_alloc | apply Kd.V_drewN | apply Kd.V_drew)); exact HO_17.out) hb); have n2_ := Aside0.mk (Kd.V_below (by (with_reducible repeat (first | apply Kd.V_alloc | apply Kd.V_drewN | apply Kd.V_drew)); exact HO_557001.out) hb); have n3_ := Aside0.mk (Kd.V_lower (Kd.V_mono (ok' := fun k_ => k_ ≠ gb540 ∧ k_ ≠ gb541 ∧ k_ ≠ gb556) ho0 (fun k_ hk_ => ⟨(Kd.freshB (g := gb540) (o := .cells #[.int .i64 a0_0, .slice (some ad546) l0_1.length c0_1] 24 (0, 0)) (by (with_reducible repeat (first | refine blk_drewN ?_ _ | refine blk_drew ?_ | refine blk_alloc ?_ _)); exact BK540.out) k_ hk_), (Kd.freshB (g := gb541) (o := .cells #[.int .i64 a1_0, .int .i64 a1_1, .int .i64 a1_2] 49 (0, 0)) (by (with_reducible repeat (first | refine blk_drewN ?_ _ | refine blk_drew ?_ | refine blk_alloc ?_ _)); exact BK541.out) k_ hk_), (Kd.freshB (g := gb556) (o := .cells #[.int .i64 t552, .slice Ao31 t553.length co31] 24 (0, 0)) (by (with_reducible repeat (first | refine blk_drewN ?_ _ | refine blk_drew ?_ | refine blk_alloc ?_ _)); exact BK556.out) k_ hk_)⟩)) (below_size (by repeat (first | (with_reducible first | exact HB.out | apply below_alloc | apply pw_below_drewN | apply below_drew1 | refine below_set ?_ GE540.out | refine below_set ?_ GE541.out | refine below_set ?_ GE556.out) | exact HB.out)))); have n4_ := Aside0.mk (blk_below (g := gb540) (o := .cells #[.int .i64 a0_0, .slice (some ad546) l0_1.length c0_1] 24 (0, 0)) (by (with_reducible repeat (first | refine blk_drewN ?_ _ | refine blk_drew ?_ | refine blk_alloc ?_ _)); exact BK540.out) hb); have n5_ := Aside0.mk (blk_below (g := gb541) (o := .cells #[.int .i64 a1_0, .int .i64 a1_1, .int .i64 a1_2] 49 (0, 0)) (by (with_reducible repeat (first | refine blk_drewN ?_ _ | refine blk_drew ?_ | refine blk_alloc ?_ _)); exact BK541.out) hb); have n6_ := Aside0.mk (blk_below (g := gb556) (o := .cells #[.int .i64 t552, .slice Ao31 t553.length co31] 24 (0, 0)) (by (with_reducible repeat (first | refine blk_drewN ?_ _ | refine blk_drew ?_ | refine blk_alloc ?_ _)); exact BK556.out) hb); have n7_ := Aside0.mk (below_step (by repeat (first | (with_reducible first | exact HB.out | apply below_alloc | apply pw_below_drewN | apply below_drew1 | refine below_set ?_ GE540.out | refine below_set ?_ GE541.out | refine below_set ?_ GE556.out) | exact HB.out)) hb); clear HO_15; clear HO_17; clear HO_557001; clear BK540; clear BK541; clear BK556; clear HB; have HO_15 := n0_; have HO_17 := n1_; have HO_557001 := n2_; have HO590 := n3_; have BK540 := n4_; have BK541 := n5_; have BK556 := n6_; have HB := n7_; clear n0_ n1_ n2_ n3_ n4_ n5_ n6_ n7_; (try clear hb); (try clear hb2); (try clear hk); (try clear hi); (try clear ho0); have hnb125 := NB556_541.out; have hnc125 := NB541_556.out; have hcz126_0 : w124.cell? ⟨gb556, 0, none⟩ = some (.int .i64 t552) := (blk_cell BK556.out 0).trans rfl; have hcz126_1 : w124.cell? ⟨gb556, 1, none⟩ = some (.slice Ao31 t553.length co31) := (blk_cell BK556.out 1).trans rfl; have hfz126_0 := blk_frozen BK556.out 0; have hfz126_1 := blk_frozen BK556.out 1) | ((with_reducible refine gate_callee (f := 27) rfl ?_); refine goesL_ (some 168) rfl rfl Tryd.func27 (by kernel_rfl) rfl #[.agg #[.int .i64 t552, .slice Ao31 t553.length co31]] rfl (by (try simp only [List.map_toArray, List.map_cons, List.map_nil]); first | done | rfl | (simp only [List.length_drop, List.length_take]; rfl)) ?_; (with_reducible refine (dapple_New.calls t552 _ _ t553 t592 t595 _ ?side1 ?side2 ?side3 A88.out).mono ?_); (case side1 => repeat (first | exact (Kd.V_reads' HO_557001.out).2.2 | (with_reducible refine Kd.C_alloc ?_ _) | (with_reducible refine Kd.C_drewN ?_ _) | (with_reducible refine Kd.C_drew ?_))); (case side2 => exact (Kd.V_reads' HO_557001.out).2.1); (case side3 => exact Glob.below HGL.out (by repeat (first | (with_reducible first | exact HB.out | apply below_alloc | apply pw_below_drewN | apply below_drew1 | refine below_set ?_ GE540.out | refine below_set ?_ GE541.out | refine below_set ?_ GE556.out) | exact HB.out))); rintro e w127 ⟨v593, rfl, ho0, hb⟩; refine ⟨_, rfl, ?_⟩; have n0_ := Aside0.mk (Kd.V_below (by (with_reducible repeat (first | apply Kd.V_alloc | apply Kd.V_drewN | apply Kd.V_drew)); exact HO_15.out) hb); have n1_ := Aside0.mk (Kd.V_below (by (with_reducible repeat (first | apply Kd.V_alloc | apply Kd.V_drewN | apply Kd.V_drew)); exact HO_17.out) hb); have n2_ := Aside0.mk (Kd.V_below (by (with_reducible repeat (first | apply Kd.V_alloc | apply Kd.V_drewN | apply Kd.V_drew)); exact HO_557001.out) hb); have n3_ := Aside0.mk (Kd.V_below (by (with_reducible repeat (first | apply Kd.V_alloc | apply Kd.V_drewN | apply Kd.V_drew)); exact HO590.out) hb); have n4_ := Aside0.mk (Kd.V_lower (Kd.V_mono (ok' := fun k_ => k_ ≠ gb540 ∧ k_ ≠ gb541 ∧ k_ ≠ gb556) ho0 (fun k_ hk_ => ⟨(Kd.freshB (g := gb540) (o := .cells #[.int .i64 a0_0, .slice (some ad546) l0_1.length c0_1] 24 (0, 0)) (by (with_reducible repeat (first | refine blk_drewN ?_ _ | refine blk_drew ?_ | refine blk_alloc ?_ _)); exact BK540.out) k_ hk_), (Kd.freshB (g := gb541) (o := .cells #[.int .i64 a1_0, .int .i64 a1_1, .int .i64 a1_2] 49 (0, 0)) (by (with_reducible repeat (first | refine blk_drewN ?_ _ | refine blk_drew ?_ | refine blk_alloc ?_ _)); exact BK541.out) k_ hk_), (Kd.freshB (g := gb556) (o := .cells #[.int .i64 t552, .slice Ao31 t553.length co31] 24 (0, 0)) (by (with_reducible repeat (first | refine blk_drewN ?_ _ | refine blk_drew ?_ | refine blk_alloc ?_ _)); exact BK556.out) k_ hk_)⟩)) (below_size (by repeat (first | (with_reducible first | exact HB.out | apply below_alloc | apply pw_below_drewN | apply below_drew1 | refine below_set ?_ GE540.out | refine below_set ?_ GE541.out | refine below_set ?_ GE556.out) | exact HB.out)))); have n5_ := Aside0.mk (blk_below (g := gb540) (o := .cells #[.int .i64 a0_0, .slice (some ad546) l0_1.length c0_1] 24 (0, 0)) (by (with_reducible repeat (first | refine blk_drewN ?_ _ | refine blk_drew ?_ | refine blk_alloc ?_ _)); exact BK540.out) hb); have n6_ := Aside0.mk (blk_below (g := gb541) (o := .cells #[.int .i64 a1_0, .int .i64 a1_1, .int .i64 a1_2] 49 (0, 0)) (by (with_reducible repeat (first | refine blk_drewN ?_ _ | refine blk_drew ?_ | refine blk_alloc ?_ _)); exact BK541.out) hb); have n7_ := Aside0.mk (blk_below (g := gb556) (o := .cells #[.int .i64 t552, .slice Ao31 t553.length co31] 24 (0, 0)) (by (with_reducible repeat (first | refine blk_drewN ?_ _ | refine blk_drew ?_ | refine blk_alloc ?_ _)); exact BK556.out) hb); have n8_ := Aside0.mk (below_step (by repeat (first | (with_reducible first | exact HB.out | apply below_alloc | apply pw_below_drewN | apply below_drew1 | refine below_set ?_ GE540.out | refine below_set ?_ GE541.out | refine below_set ?_ GE556.out) | exact HB.out)) hb); clear HO_15; clear HO_17; clear HO_557001; clear HO590; clear BK540; clear BK541; clear BK556; clear HB; have HO_15 := n0_; have HO_17 := n1_; have HO_557001 := n2_; have HO590 := n3_; have HO594 := n4_; have BK540 := n5_; have BK541 := n6_; have BK556 := n7_; have HB := n8_; clear n0_ n1_ n2_ n3_ n4_ n5_ n6_ n7_ n8_; (try clear hb); (try clear hb2); (try clear hk); (try clear hi); (try clear ho0); have hcz128_0 : w127.cell? ⟨gb540, 0, none⟩ = some (.int .i64 a0_0) := (blk_cell BK540.out 0).trans rfl; have hcz128_1 : w127.cell? ⟨gb540, 1, none⟩ = some (.slice (some ad546) l0_1.length c0_1) := (blk_cell BK540.out 1).trans rfl; have hfz128_0 := blk_frozen BK540.out 0; have hfz128_1 := blk_frozen BK540.out 1) | ((with_reducible refine gate_callee (f := 42) rfl ?_); refine goesL_ (some 173) rfl rfl Tryd.func42 (by kernel_rfl) rfl #[.agg #[.int .i64 a0_0, .slice (some ad546) l0_1.length c0_1]] rfl (by (try simp only [List.map_toArray, List.map_cons, List.map_nil]); first | done | rfl | (simp only [List.length_drop, List.length_take]; rfl)) ?_; (with_reducible refine (dapple_Drop.calls a0_0 _ _ l0_1 t596 t599 _ ?side1 ?side2 ?side3 A89.out).mono ?_); (case side1 => repeat (first | exact (Kd.C_below HR0_1.out HB.out) | (with_reducible refine Kd.C_alloc ?_ _) | (with_reducible refine Kd.C_drewN ?_ _) | (with_reducible refine Kd.C_drew ?_))); (case side2 => exact HC0_1.out); (case side3 => exact Glob.below HGL.out (by repeat (first | (with_reducible first | exact HB.out | apply below_alloc | apply pw_below_drewN | apply below_drew1 | refine below_set ?_ GE540.out | refine below_set ?_ GE541.out | refine below_set ?_ GE556.out) | exact HB.out))); rintro e w129 ⟨v597, rfl, ho0, hb⟩; refine ⟨_, rfl, ?_⟩; have n0_ := Aside0.mk (Kd.V_below (by (with_reducible repeat (first | apply Kd.V_alloc | apply Kd.V_drewN | apply Kd.V_drew)); exact HO_15.out) hb); have n1_ := Aside0.mk (Kd.V_below (by (with_reducible repeat (first | apply Kd.V_alloc | apply Kd.V_drewN | apply Kd.V_drew)); exact HO_17.out) hb); have n2_ := Aside0.mk (Kd.V_below (by (with_reducible repeat (first | apply Kd.V_alloc | apply Kd.V_drewN | apply Kd.V_drew)); exact HO_557001.out) hb); have n3_ := Aside0.mk (Kd.V_below (by (with_reducible repeat (first | apply Kd.V_alloc | apply Kd.V_drewN | apply Kd.V_drew)); exact HO590.out) hb); have n4_ := Aside0.mk (Kd.V_below (by (with_reducible repeat (first | apply Kd.V_alloc | apply Kd.V_drewN | apply Kd.V_drew)); exact HO594.out) hb); have n5_ := Aside0.mk (Kd.V_lower (Kd.V_mono (ok' := fun k_ => k_ ≠ gb540 ∧ k_ ≠ gb541 ∧ k_ ≠ gb556) ho0 (fun k_ hk_ => ⟨(Kd.freshB (g := gb540) (o := .cells #[.int .i64 a0_0, .slice (some ad546) l0_1.length c0_1] 24 (0, 0)) (by (with_reducible repeat (first | refine blk_drewN ?_ _ | refine blk_drew ?_ | refine blk_alloc ?_ _)); exact BK540.out) k_ hk_), (Kd.freshB (g := gb541) (o := .cells #[.int .i64 a1_0, .int .i64 a1_1, .int .i64 a1_2] 49 (0, 0)) (by (with_reducible repeat (first | refine blk_drewN ?_ _ | refine blk_drew ?_ | refine blk_alloc ?_ _)); exact BK541.out) k_ hk_), (Kd.freshB (g := gb556) (o := .cells #[.int .i64 t552, .slice Ao31 t553.length co31] 24 (0, 0)) (by (with_reducible repeat (first | refine blk_drewN ?_ _ | refine blk_drew ?_ | refine blk_alloc ?_ _)); exact BK556.out) k_ hk_)⟩)) (below_size (by repeat (first | (with_reducible first | exact HB.out | apply below_alloc | apply pw_below_drewN | apply below_drew1 | refine below_set ?_ GE540.out | refine below_set ?_ GE541.out | refine below_set ?_ GE556.out) | exact HB.out)))); have n6_ := Aside0.mk (blk_below (g := gb540) (o := .cells #[.int .i64 a0_0, .slice (some ad546) l0_1.length c0_1] 24 (0, 0)) (by (with_reducible repeat (first | refine blk_drewN ?_ _ | refine blk_drew ?_ | refine blk_alloc ?_ _)); exact BK540.out) hb); have n7_ := Aside0.mk (blk_below (g := gb541) (o := .cells #[.int .i64 a1_0, .int .i64 a1_1, .int .i64 a1_2] 49 (0, 0)) (by (with_reducible repeat (first | refine blk_drewN ?_ _ | refine blk_drew ?_ | refine blk_alloc ?_ _)); exact BK541.out) hb); have n8_ := Aside0.mk (blk_below (g := gb556) (o := .cells #[.int .i64 t552, .slice Ao31 t553.length co31] 24 (0, 0)) (by (with_reducible repeat (first | refine blk_drewN ?_ _ | refine blk_drew ?_ | refine blk_alloc ?_ _)); exact BK556.out) hb); have n9_ := Aside0.mk (below_step (by repeat (first | (with_reducible first | exact HB.out | apply below_alloc | apply pw_below_drewN | apply below_drew1 | refine below_set ?_ GE540.out | refine below_set ?_ GE541.out | refine below_set ?_ GE556.out) | exact HB.out)) hb); clear HO_15; clear HO_17; clear HO_557001; clear HO590; clear HO594; clear BK540; clear BK541; clear BK556; clear HB; have HO_15 := n0_; have HO_17 := n1_; have HO_557001 := n2_; have HO590 := n3_; have HO594 := n4_; have HO598 := n5_; have BK540 := n6_; have BK541 := n7_; have BK556 := n8_; have HB := n9_; clear n0_ n1_ n2_ n3_ n4_ n5_ n6_ n7_ n8_ n9_; (try clear hb); (try clear hb2); (try clear hk); (try clear hi); (try clear ho0); have hcz130_0 : w129.cell? ⟨gb556, 0, none⟩ = some (.int .i64 t552) := (blk_cell BK556.out 0).trans rfl; have hcz130_1 : w129.cell? ⟨gb556, 1, none⟩ = some (.slice Ao31 t553.length co31) := (blk_cell BK556.out 1).trans rfl; have hfz130_0 := blk_frozen BK556.out 0; have hfz130_1 := blk_frozen BK556.out 1) | ((with_reducible refine gate_callee (f := 42) rfl ?_); refine goesL_ (some 178) rfl rfl Tryd.func42 (by kernel_rfl) rfl #[.agg #[.int .i64 t552, .slice Ao31 t553.length co31]] rfl (by (try simp only [List.map_toArray, List.map_cons, List.map_nil]); first | done | rfl | (simp only [List.length_drop, List.length_take]; rfl)) ?_; (with_reducible refine (dapple_Drop.calls t552 _ _ t553 t600 t603 _ ?side1 ?side2 ?side3 A90.out).mono ?_); (case side1 => repeat (first | exact (Kd.V_reads' HO_557001.out).2.2 | (with_reducible refine Kd.C_alloc ?_ _) | (with_reducible refine Kd.C_drewN ?_ _) | (with_reducible refine Kd.C_drew ?_))); (case side2 => exact (Kd.V_reads' HO_557001.out).2.1); (case side3 => exact Glob.below HGL.out (by repeat (first | (with_reducible first | exact HB.out | apply below_alloc | apply pw_below_drewN | apply below_drew1 | refine below_set ?_ GE540.out | refine below_set ?_ GE541.out | refine below_set ?_ GE556.out) | exact HB.out))); rintro e w131 ⟨v601, rfl, ho0, hb⟩; refine ⟨_, rfl, ?_⟩; have n0_ := Aside0.mk (Kd.V_below (by (with_reducible repeat (first | apply Kd.V_alloc | apply Kd.V_drewN | apply Kd.V_drew)); exact HO_15.out) hb); have n1_ := Aside0.mk (Kd.V_below (by (with_reducible repeat (first | apply Kd.V_alloc | apply Kd.V_drewN | apply Kd.V_drew)); exact HO_17.out) hb); have n2_ := Aside0.mk (Kd.V_below (by (with_reducible repeat (first | apply Kd.V_alloc | apply Kd.V_drewN | apply Kd.V_drew)); exact HO_557001.out) hb); have n3_ := Aside0.mk (Kd.V_below (by (with_reducible repeat (first | apply Kd.V_alloc | apply Kd.V_drewN | apply Kd.V_drew)); exact HO590.out) hb); have n4_ := Aside0.mk (Kd.V_below (by (with_reducible repeat (first | apply Kd.V_alloc | apply Kd.V_drewN | apply Kd.V_drew)); exact HO594.out) hb); have n5_ := Aside0.mk (Kd.V_below (by (with_reducible repeat (first | apply Kd.V_alloc | apply Kd.V_drewN | apply Kd.V_drew)); exact HO598.out) hb); have n6_ := Aside0.mk (Kd.V_lower (Kd.V_mono (ok' := fun k_ => k_ ≠ gb540 ∧ k_ ≠ gb541 ∧ k_ ≠ gb556) ho0 (fun k_ hk_ => ⟨(Kd.freshB (g := gb540) (o := .cells #[.int .i64 a0_0, .slice (some ad546) l0_1.length c0_1] 24 (0, 0)) (by (with_reducible repeat (first | refine blk_drewN ?_ _ | refine blk_drew ?_ | refine blk_alloc ?_ _)); exact BK540.out) k_ hk_), (Kd.freshB (g := gb541) (o := .cells #[.int .i64 a1_0, .int .i64 a1_1, .int .i64 a1_2] 49 (0, 0)) (by (with_reducible repeat (first | refine blk_drewN ?_ _ | refine blk_drew ?_ | refine blk_alloc ?_ _)); exact BK541.out) k_ hk_), (Kd.freshB (g := gb556) (o := .cells #[.int .i64 t552, .slice Ao31 t553.length co31] 24 (0, 0)) (by (with_reducible repeat (first | refine blk_drewN ?_ _ | refine blk_drew ?_ | refine blk_alloc ?_ _)); exact BK556.out) k_ hk_)⟩)) (below_size (by repeat (first | (with_reducible first | exact HB.out | apply below_alloc | apply pw_below_drewN | apply below_drew1 | refine below_set ?_ GE540.out | refine below_set ?_ GE541.out | refine below_set ?_ GE556.out) | exact HB.out)))); have n7_ := Aside0.mk (blk_below (g := gb540) (o := .cells #[.int .i64 a0_0, .slice (some ad546) l0_1.length c0_1] 24 (0, 0)) (by (with_reducible repeat (first | refine blk_drewN ?_ _ | refine blk_drew ?_ | refine blk_alloc ?_ _)); exact BK540.out) hb); have n8_ := Aside0.mk (blk_below (g := gb541) (o := .cells #[.int .i64 a1_0, .int .i64 a1_1, .int .i64 a1_2] 49 (0, 0)) (by (with_reducible repeat (first | refine blk_drewN ?_ _ | refine blk_drew ?_ | refine blk_alloc ?_ _)); exact BK541.out) hb); have n9_ := Aside0.mk (blk_below (g := gb556) (o := .cells #[.int .i64 t552, .slice Ao31 t553.length co31] 24 (0, 0)) (by (with_reducible repeat (first | refine blk_drewN ?_ _ | refine blk_drew ?_ | refine blk_alloc ?_ _)); exact BK556.out) hb); have n10_ := Aside0.mk (below_step (by repeat (first | (with_reducible first | exact HB.out | apply below_alloc | apply pw_below_drewN | apply below_drew1 | refine below_set ?_ GE540.out | refine below_set ?_ GE541.out | refine below_set ?_ GE556.out) | exact HB.out)) hb); clear HO_15; clear HO_17; clear HO_557001; clear HO590; clear HO594; clear HO598; clear BK540; clear BK541; clear BK556; clear HB; have HO_15 := n0_; have HO_17 := n1_; have HO_557001 := n2_; have HO590 := n3_; have HO594 := n4_; have HO598 := n5_; have HO602 := n6_; have BK540 := n7_; have BK541 := n8_; have BK556 := n9_; have HB := n10_; clear n0_ n1_ n2_ n3_ n4_ n5_ n6_ n7_ n8_ n9_ n10_; (try clear hb); (try clear hb2); (try clear hk); (try clear hi); (try clear ho0); obtain ⟨Ao132, co132, eo132⟩ := Kd.V_slice HO602.out; subst eo132; obtain ⟨Ao133, co133, eo133⟩ := Kd.V_slice HO598.out; subst eo133) | (go_at_call 24; (with_reducible refine (skewbaldlaw07_pressed.calls k4  t606 _ ?side1 A119.out).mono ?_); (case side1 => exact Glob.below HGL.out (by repeat (first | (with_reducible first | exact HB.out | apply below_alloc | apply pw_below_drewN | apply below_drew1 | refine below_set ?_ GE540.out | refine below_set ?_ GE541.out | refine below_set ?_ GE556.out) | exact HB.out))); rintro e w134 ⟨rfl, hb⟩; have n0_ := Aside0.mk (Kd.V_below (by (with_reducible repeat (first | apply Kd.V_alloc | apply Kd.V_drewN | apply Kd.V_drew)); exact HO_15.out) hb); have n1_ := Aside0.mk (Kd.V_below (by (with_reducible repeat (first | apply Kd.V_alloc | apply Kd.V_drewN | apply Kd.V_drew)); exact HO_17.out) hb); have n2_ := Aside0.mk (Kd.V_below (by (with_reducible repeat (first | apply Kd.V_alloc | apply Kd.V_drewN | apply Kd.V_drew)); exact HO_557001.out) hb); have n3_ := Aside0.mk (Kd.V_below (by (with_reducible repeat (first | apply Kd.V_alloc | apply Kd.V_drewN | apply Kd.V_drew)); exact HO590.out) hb); have n4_ := Aside0.mk (Kd.V_below (by (with_reducible repeat (first | apply Kd.V_alloc | apply Kd.V_drewN | apply Kd.V_drew)); exact HO594.out) hb); have n5_ := Aside0.mk (Kd.V_below (by (with_reducible repeat (first | apply Kd.V_alloc | apply Kd.V_drewN | apply Kd.V_drew)); exact HO598.out) hb); have n6_ := Aside0.mk (Kd.V_below (by (with_reducible repeat (first | apply Kd.V_alloc | apply Kd.V_drewN | apply Kd.V_drew)); exact HO602.out) hb); have n7_ := Aside0.mk (blk_below (g := gb540) (o := .cells #[.int .i64 a0_0, .slice (some ad546) l0_1.length c0_1] 24 (0, 0)) (by (with_reducible repeat (first | refine blk_drewN ?_ _ | refine blk_drew ?_ | refine blk_alloc ?_ _)); exact BK540.out) hb); have n8_ := Aside0.mk (blk_below (g := gb541) (o := .cells #[.int .i64 a1_0, .int .i64 a1_1, .int .i64 a1_2] 49 (0, 0)) (by (with_reducible repeat (first | refine blk_drewN ?_ _ | refine blk_drew ?_ | refine blk_alloc ?_ _)); exact BK541.out) hb); have n9_ := Aside0.mk (blk_below (g := gb556) (o := .cells #[.int .i64 t552, .slice Ao31 t553.length co31] 24 (0, 0)) (by (with_reducible repeat (first | refine blk_drewN ?_ _ | refine blk_drew ?_ | refine blk_alloc ?_ _)); exact BK556.out) hb); have n10_ := Aside0.mk (below_step (by repeat (first | (with_reducible first | exact HB.out | apply below_alloc | apply pw_below_drewN | apply below_drew1 | refine below_set ?_ GE540.out | refine below_set ?_ GE541.out | refine below_set ?_ GE556.out) | exact HB.out)) hb); clear HO_15; clear HO_17; clear HO_557001; clear HO590; clear HO594; clear HO598; clear HO602; clear BK540; clear BK541; clear BK556; clear HB; have HO_15 := n0_; have HO_17 := n1_; have HO_557001 := n2_; have HO590 := n3_; have HO594 := n4_; have HO598 := n5_; have HO602 := n6_; have BK540 := n7_; have BK541 := n8_; have BK556 := n9_; have HB := n10_; clear n0_ n1_ n2_ n3_ n4_ n5_ n6_ n7_ n8_ n9_ n10_; (try clear hb); (try clear hb2); (try clear hk); (try clear hi)))
                      go_ret
                      exact ⟨by first | rfl | (rw [HE_.out]; done) | (simp [HE_.out]; done) | (simp [errW_none, errW_some] <;> rfl) | (simp [*, errW_none, errW_some] <;> rfl), by repeat (first | (with_reducible first | exact HB.out | apply below_alloc | apply pw_below_drewN | apply below_drew1 | refine below_set ?_ GE540.out | refine below_set ?_ GE541.out | refine below_set ?_ GE556.out) | exact HB.out)⟩
                     ·rw [if_neg c118] at H
                      have c118b0 : decide ((t600.length : Int) ≤ (t596.length : Int)) = false := decide_eq_false c118
                      have c118b1 : decide (t600.length ≤ t596.length) = false := decide_eq_false (fun h => c118 (Int.ofNat_le.mpr h))
                      clear c118
                      exact absurd H (by simp)
                    ·rw [if_neg c117] at H
                     have c117b0 : (t603 == 0) = false := beq_eq_false_iff_ne.mpr c117
                     have c117b1 : (t603 != 0) = true := bne_iff_ne.mpr c117
                     exact absurd H (by simp)
                   ·rw [if_neg c116] at H
                    have c116b0 : (t599 == 0) = false := beq_eq_false_iff_ne.mpr c116
                    have c116b1 : (t599 != 0) = true := bne_iff_ne.mpr c116
                    exact absurd H (by simp)
     ·rw [if_neg c11] at H
      exact absurd H (by simp)
    ·rw [if_neg c10] at H
     exact absurd H (by simp)
   ·rw [if_neg c9] at H
    exact absurd H (by simp)
  ·rw [if_neg c8] at H
   exact absurd H (by simp)
 ·replace c5 := Bool.eq_false_iff.mpr c5
  subst c5
  have H1 : ((skewbaldlaw07_pressed.f k).bind fun t543 => (some t543)) = some true := by rw [if_neg (show ¬ (false = true) by decide)] at H; exact H
  clear H
  have H := H1
  clear H1
  replace H := Option.bind_eq_some_iff.mp H
  obtain ⟨t543, A1350, H⟩ := H
  replace H : (some t543) = some true := H
  have A135 := Aside0.mk A1350
  clear A1350
  have HE_ := Aside0.mk (Option.some.inj H)
  clear H
  go_enter Tryd.func12, Tryd.ntmps12
  go_wp2_with (first | ((with_reducible refine gate_dst (N := 3) rfl ?_); (try (refine gate_guard (by rfl) ?_; dsimp only)); refine box_event ?hg (N := 3) ?hd (cs := #[.int .i64 a0_0, .slice A0_1 l0_1.length c0_1]) (t := 24) ?hr ?_; (case hd => rfl); (case hg => rfl); (case hr => first | (go_simp; done) | (go_simp; rfl)); intro gb540 hg w136 hbox hb; have n0_ := Aside0.mk (below_step (by repeat (first | (with_reducible first | exact HB.out | apply below_alloc | apply pw_below_drewN | apply below_drew1) | exact HB.out)) hb); have n1_ := Aside0.mk (hbox); have n2_ := Aside0.mk ((by rw [hg]; exact (below_size (by repeat (first | (with_reducible first | exact HB.out | apply below_alloc | apply pw_below_drewN | apply below_drew1) | exact HB.out))) : w.heap.size ≤ gb540)); have n3_ := Aside0.mk ((by rw [hg]; exact (below_size (by repeat (first | (with_reducible first | exact HB.out | apply below_alloc | apply pw_below_drewN | apply below_drew1) | exact HB.out))) : w.heap.size ≤ gb540)); clear HB; have HB := n0_; have BK540 := n1_; have GW540 := n2_; have GE540 := n3_; clear n0_ n1_ n2_ n3_; clear hb hbox hg) | ((with_reducible refine gate_dst (N := 4) rfl ?_); (try (refine gate_guard (by rfl) ?_; dsimp only)); refine box_event ?hg (N := 4) ?hd (cs := #[.int .i64 a1_0, .int .i64 a1_1, .int .i64 a1_2]) (t := 49) ?hr ?_; (case hd => rfl); (case hg => rfl); (case hr => first | (go_simp; done) | (go_simp; rfl)); intro gb541 hg w137 hbox hb; have n0_ := Aside0.mk (blk_below (g := gb540) (o := .cells #[.int .i64 a0_0, .slice A0_1 l0_1.length c0_1] 24 (0, 0)) (by (with_reducible repeat (first | refine blk_drewN ?_ _ | refine blk_drew ?_ | refine blk_alloc ?_ _)); exact BK540.out) hb); have n1_ := Aside0.mk (below_step (by repeat (first | (with_reducible first | exact HB.out | apply below_alloc | apply pw_below_drewN | apply below_drew1 | refine below_set ?_ GE540.out) | exact HB.out)) hb); have n2_ := Aside0.mk (hbox); have n3_ := Aside0.mk ((by rw [hg]; exact (below_size (by repeat (first | (with_reducible first | exact HB.out | apply below_alloc | apply pw_below_drewN | apply below_drew1 | refine below_set ?_ GE540.out) | exact HB.out))) : w.heap.size ≤ gb541)); have n4_ := Aside0.mk ((by rw [hg]; exact (below_size (by repeat (first | (with_reducible first | exact HB.out | apply below_alloc | apply pw_below_drewN | apply below_drew1 | refine below_set ?_ GE540.out) | exact HB.out))) : w.heap.size ≤ gb541)); have n5_ := Aside0.mk ((by rw [hg]; exact Nat.ne_of_lt (blk_lt (g := gb540) (o := .cells #[.int .i64 a0_0, .slice A0_1 l0_1.length c0_1] 24 (0, 0)) (by (with_reducible repeat (first | refine blk_drewN ?_ _ | refine blk_drew ?_ | refine blk_alloc ?_ _)); exact BK540.out)) : gb540 ≠ gb541)); have n6_ := Aside0.mk ((by rw [hg]; exact Nat.ne_of_gt (blk_lt (g := gb540) (o := .cells #[.int .i64 a0_0, .slice A0_1 l0_1.length c0_1] 24 (0, 0)) (by (with_reducible repeat (first | refine blk_drewN ?_ _ | refine blk_drew ?_ | refine blk_alloc ?_ _)); exact BK540.out)) : gb541 ≠ gb540)); clear BK540; clear HB; have BK540 := n0_; have HB := n1_; have BK541 := n2_; have GW541 := n3_; have GE541 := n4_; have NB540_541 := n5_; have NB541_540 := n6_; clear n0_ n1_ n2_ n3_ n4_ n5_ n6_; clear hb hbox hg; have hnb138 := NB540_541.out; have hnc138 := NB541_540.out; have hcz139_0 : w137.cell? ⟨gb540, 0, none⟩ = some (.int .i64 a0_0) := (blk_cell BK540.out 0).trans rfl; have hcz139_1 : w137.cell? ⟨gb540, 1, none⟩ = some (.slice A0_1 l0_1.length c0_1) := (blk_cell BK540.out 1).trans rfl; have hfz139_0 := blk_frozen BK540.out 0; have hfz139_1 := blk_frozen BK540.out 1) | ((with_reducible refine gate_callee (f := 29) rfl ?_); refine goesL_ (some 29) rfl rfl Tryd.func29 (by kernel_rfl) rfl #[.agg #[.int .i64 a0_0, .slice A0_1 l0_1.length c0_1]] rfl (by (try simp only [List.map_toArray, List.map_cons, List.map_nil]); first | done | rfl | (simp only [List.length_drop, List.length_take]; rfl)) ?_; (with_reducible refine (skewbaldlaw07_sound.calls k a0_0 _ _ l0_1 false _ ?side1 ?side2 A4.out).mono ?_); (case side1 => repeat (first | exact (Kd.C_below HR0_1.out HB.out) | (with_reducible refine Kd.C_alloc ?_ _) | (with_reducible refine Kd.C_drewN ?_ _) | (with_reducible refine Kd.C_drew ?_))); (case side2 => exact HC0_1.out); rintro e w140 ⟨rfl, hb⟩; refine ⟨_, rfl, ?_⟩; have n0_ := Aside0.mk (blk_below (g := gb540) (o := .cells #[.int .i64 a0_0, .slice A0_1 l0_1.length c0_1] 24 (0, 0)) (by (with_reducible repeat (first | refine blk_drewN ?_ _ | refine blk_drew ?_ | refine blk_alloc ?_ _)); exact BK540.out) hb); have n1_ := Aside0.mk (blk_below (g := gb541) (o := .cells #[.int .i64 a1_0, .int .i64 a1_1, .int .i64 a1_2] 49 (0, 0)) (by (with_reducible repeat (first | refine blk_drewN ?_ _ | refine blk_drew ?_ | refine blk_alloc ?_ _)); exact BK541.out) hb); have n2_ := Aside0.mk (below_step (by repeat (first | (with_reducible first | exact HB.out | apply below_alloc | apply pw_below_drewN | apply below_drew1 | refine below_set ?_ GE540.out | refine below_set ?_ GE541.out) | exact HB.out)) hb); clear BK540; clear BK541; clear HB; have BK540 := n0_; have BK541 := n1_; have HB := n2_; clear n0_ n1_ n2_; (try clear hb); (try clear hb2); (try clear hk); (try clear hi)) | ((with_reducible refine gate_callee (f := 24) rfl ?_); refine goesL_ (some 31) rfl rfl Tryd.func24 (by kernel_rfl) rfl #[] rfl (by (try simp only [List.map_toArray, List.map_cons, List.map_nil]); first | done | rfl | (simp only [List.length_drop, List.length_take]; rfl)) ?_; (with_reducible refine (skewbaldlaw07_pressed.calls k  t543 _ ?side1 A135.out).mono ?_); (case side1 => exact Glob.below HGL.out (by repeat (first | (with_reducible first | exact HB.out | apply below_alloc | apply pw_below_drewN | apply below_drew1 | refine below_set ?_ GE540.out | refine below_set ?_ GE541.out) | exact HB.out))); rintro e w141 ⟨rfl, hb⟩; refine ⟨_, rfl, ?_⟩; have n0_ := Aside0.mk (blk_below (g := gb540) (o := .cells #[.int .i64 a0_0, .slice A0_1 l0_1.length c0_1] 24 (0, 0)) (by (with_reducible repeat (first | refine blk_drewN ?_ _ | refine blk_drew ?_ | refine blk_alloc ?_ _)); exact BK540.out) hb); have n1_ := Aside0.mk (blk_below (g := gb541) (o := .cells #[.int .i64 a1_0, .int .i64 a1_1, .int .i64 a1_2] 49 (0, 0)) (by (with_reducible repeat (first | refine blk_drewN ?_ _ | refine blk_drew ?_ | refine blk_alloc ?_ _)); exact BK541.out) hb); have n2_ := Aside0.mk (below_step (by repeat (first | (with_reducible first | exact HB.out | apply below_alloc | apply pw_below_drewN | apply below_drew1 | refine below_set ?_ GE540.out | refine below_set ?_ GE541.out) | exact HB.out)) hb); clear BK540; clear BK541; clear HB; have BK540 := n0_; have BK541 := n1_; have HB := n2_; clear n0_ n1_ n2_; (try clear hb); (try clear hb2); (try clear hk); (try clear hi)))
  go_ret
  exact ⟨by first | rfl | (rw [HE_.out]; done) | (simp [HE_.out]; done) | (simp [errW_none, errW_some] <;> rfl) | (simp [*, errW_none, errW_some] <;> rfl), by repeat (first | (with_reducible first | exact HB.out | apply below_alloc | apply pw_below_drewN | apply below_drew1 | refine below_set ?_ GE540.out | refine below_set ?_ GE541.out) | exact HB.out)⟩

end Go.Proofs.YtdllacjkacmghaaDoor.DT
