/- Package plank, plain laws: PlankMost. -/
import Derived.Test.YtekjlpldooihhaaDoorWTab
import Derived.Test.YtekjlpldooihhaaDoorSw
import Derived.Test.YtekjlpldooihhaaDoorPTx18
import Derived.Test.YtekjlpldooihhaaDoorQa
namespace Go.Proofs.YtekjlpldooihhaaDoor.PT
open Go.Proofs.YtekjlpldooihhaaDoorSh
open Go.Proofs.YtekjlpldooihhaaDoor.PA (S48 S50 S60 at_L2 at_L4 at_T48 at_T50 at_T60 errW errW_none errW_some k48 k48_mk k48_mkM k48_open k48_openM k50 k50_mk k50_mkM k50_open k50_openM k60 k60_mk k60_mkM k60_open k60_openM rd_L2 rd_L4 rd_T48 rd_T50 rd_T60 z48 z50 z60)
open Go.Proofs.YtekjlpldooihhaaDoorP Go.Proofs.YtekjlpldooihhaaDoorK
open Go.RowKit Go.Proofs.YtekjlpldooihhaaDoorW.PrintWords Go.Proofs.YtekjlpldooihhaaDoorW.PrintLast Go.Proofs.YtekjlpldooihhaaDoorW.PrintMore
attribute [local go_sem] max2_int min2_int max_two min_two max_three min_three max_four min_four   -- for this text's walks alone
set_option linter.unusedVariables false
set_option linter.unusedSimpArgs false
def skewbaldlaw01_PlankMost.j0 : Nat → List Int → List Int → Bool → Bool → Option (Bool)
 | 0, _, _, _, _ => none
 | k + 1, x5, x10, x11, x101 => if x101 = true then (some false) else (if x11 = true then (if (x10.length : Int) < (x5.length : Int) then ((skewbaldlaw01_sawn.f).bind fun t592 => (some t592)) else (if (x10.length : Int) = (x5.length : Int) then ((skewbaldref00_Less.f k x10 x5).bind fun t593 => (if t593 = true then (some false) else ((skewbaldlaw01_sawn.f).bind fun t594 => (some t594)))) else (some false))) else ((skewbaldlaw01_sawn.f).bind fun t595 => (some t595)))
def skewbaldlaw01_PlankMost.f (k : Nat) (l0_0 : List (S48)) (l0_1 : List (S50)) (a1 : Int) : Option (Bool) := (plank_Most.f l0_0 l0_1).bind fun bt571 => ((skewbaldlaw01_sound.f k l0_0 l0_1).bind fun t575 => (if t575 = true then ((skewbaldref00_Set.f k bt571.1).bind fun t577 => ((skewbaldlaw01_enough.f k l0_0 l0_1 (wrap64 ((shl .i64 1 (l0_0.length : Int)) - 1)) t577).bind fun bt578 => ((skewbaldref00_Round.f a1 (shl .i64 1 (l0_1.length : Int))).bind fun t580 => ((skewbaldref00_List.f k t580 (l0_1.length : Int)).bind fun t581 => ((skewbaldref00_Set.f k t581).bind fun t584 => ((skewbaldlaw01_enough.f k l0_0 l0_1 (wrap64 ((shl .i64 1 (l0_0.length : Int)) - 1)) t584).bind fun bt585 => ((plank_Fewest.f l0_0 l0_1).bind fun bt587 => (if bt571.2 = 0 then (if bt578.2 = true then (if bt585.2 = true then (if bt578.1 = true then ((skewbaldref00_Grows.f k bt571.1 (l0_1.length : Int)).bind fun t591 => (if t591 = true then (skewbaldlaw01_PlankMost.j0 k bt571.1 t581 bt585.1 (((bt571.1.length : Int) == (l0_1.length : Int)) != (bt587.2 == 0))) else (skewbaldlaw01_PlankMost.j0 k bt571.1 t581 bt585.1 true))) else (skewbaldlaw01_PlankMost.j0 k bt571.1 t581 bt585.1 true)) else (skewbaldlaw01_PlankMost.j0 k bt571.1 t581 bt585.1 true)) else (skewbaldlaw01_PlankMost.j0 k bt571.1 t581 bt585.1 true)) else (skewbaldlaw01_PlankMost.j0 k bt571.1 t581 bt585.1 true))))))))) else (if bt571.2 = 10 then (if (bt571.1.length : Int) = 0 then ((skewbaldlaw01_sawn.f).bind fun t576 => (some t576)) else (some false)) else (some false))))
def skewbaldlaw01_PlankMost.T5 : Bool × List (List Nat × List Nat) := (true, [([], []), ([], []), ([], []), ([2], [2]), ([0, 1, 3, 3], [0, 1, 3]), ([4], [4]), ([5], [5]), ([5], [5]), ([6, 4, 0, 1, 2, 3, 4, 5, 6], [6]), ([7, 8, 0, 1, 2, 3, 4, 5, 6, 7, 8], [7])])
def skewbaldlaw01_PlankMost.B5 : List Nat := [0, 0, 0, 4, 15, 31, 63, 63, 127, 511]
theorem skewbaldlaw01_PlankMost.tab5 : rtab .any (opsOf Tryd.f10 5) = skewbaldlaw01_PlankMost.T5 := by kernel_rfl
theorem skewbaldlaw01_PlankMost.bits5 : waitsOk skewbaldlaw01_PlankMost.T5.2 skewbaldlaw01_PlankMost.B5 = true := by kernel_rfl
def skewbaldlaw01_PlankMost.T6 : Bool × List (List Nat × List Nat) := (true, [([], []), ([], []), ([1], [1]), ([2], [2]), ([3], [3]), ([0, 4], [0, 4]), ([], []), ([6], [6]), ([7], [7]), ([5, 8, 5], [5, 8]), ([9, 9, 0, 1, 2, 3, 4, 5, 6, 7, 8, 9], [9])])
def skewbaldlaw01_PlankMost.B6 : List Nat := [0, 0, 2, 6, 14, 31, 0, 64, 192, 511, 1023]
theorem skewbaldlaw01_PlankMost.tab6 : rtab .any (opsOf Tryd.f10 6) = skewbaldlaw01_PlankMost.T6 := by kernel_rfl
theorem skewbaldlaw01_PlankMost.bits6 : waitsOk skewbaldlaw01_PlankMost.T6.2 skewbaldlaw01_PlankMost.B6 = true := by kernel_rfl
def skewbaldlaw01_PlankMost.T7 : Bool × List (List Nat × List Nat) := (true, [([], []), ([], []), ([], []), ([2], [2]), ([0, 1, 3, 3], [0, 1, 3]), ([4], [4]), ([5], [5]), ([5], [5]), ([6, 4, 0, 1, 2, 3, 4, 5, 6], [6]), ([7, 8, 0, 1, 2, 3, 4, 5, 6, 7, 8], [7])])
def skewbaldlaw01_PlankMost.B7 : List Nat := [0, 0, 0, 4, 15, 31, 63, 63, 127, 511]
theorem skewbaldlaw01_PlankMost.tab7 : rtab .any (opsOf Tryd.f10 7) = skewbaldlaw01_PlankMost.T7 := by kernel_rfl
theorem skewbaldlaw01_PlankMost.bits7 : waitsOk skewbaldlaw01_PlankMost.T7.2 skewbaldlaw01_PlankMost.B7 = true := by kernel_rfl
set_option maxHeartbeats 8000000 in
set_option maxRecDepth 100000 in
theorem skewbaldlaw01_PlankMost.calls (k : Nat) (A0_0 : Option Addr) (c0_0 : Nat) (l0_0 : List (S48)) (A0_1 : Option Addr) (c0_1 : Nat) (l0_1 : List (S50)) (a1 : Int) (w : World) (hr0_0 : Kd.C k48 w A0_0 l0_0.length l0_0) (hc0_0 : l0_0.length ≤ c0_0) (hr0_1 : Kd.C k50 w A0_1 l0_1.length l0_1) (hc0_1 : l0_1.length ≤ c0_1) (hG : Glob w) (h : skewbaldlaw01_PlankMost.f k l0_0 l0_1 a1 = some true) :
  Calls Tryd.prog 10 #[.agg #[.slice A0_0 l0_0.length c0_0, .slice A0_1 l0_1.length c0_1], .int .i64 a1] w fun e w' => e = .returned (.bool true) ∧ Below w.heap.size w w' := by
 have hu25 := Tryd.underlying25
 have HR0_0 := Aside0.mk hr0_0
 have HC0_0 := Aside0.mk hc0_0
 clear hr0_0 hc0_0
 have HR0_1 := Aside0.mk hr0_1
 have HC0_1 := Aside0.mk hc0_1
 clear hr0_1 hc0_1
 have HGL := Aside0.mk hG
 clear hG
 have HB := Aside0.mk (Below.refl w.heap.size w)
 have H : ((plank_Most.f l0_0 l0_1).bind fun bt571 => ((skewbaldlaw01_sound.f k l0_0 l0_1).bind fun t575 => (if t575 = true then ((skewbaldref00_Set.f k bt571.1).bind fun t577 => ((skewbaldlaw01_enough.f k l0_0 l0_1 (wrap64 ((shl .i64 1 (l0_0.length : Int)) - 1)) t577).bind fun bt578 => ((skewbaldref00_Round.f a1 (shl .i64 1 (l0_1.length : Int))).bind fun t580 => ((skewbaldref00_List.f k t580 (l0_1.length : Int)).bind fun t581 => ((skewbaldref00_Set.f k t581).bind fun t584 => ((skewbaldlaw01_enough.f k l0_0 l0_1 (wrap64 ((shl .i64 1 (l0_0.length : Int)) - 1)) t584).bind fun bt585 => ((plank_Fewest.f l0_0 l0_1).bind fun bt587 => (if bt571.2 = 0 then (if bt578.2 = true then (if bt585.2 = true then (if bt578.1 = true then ((skewbaldref00_Grows.f k bt571.1 (l0_1.length : Int)).bind fun t591 => (if t591 = true then (skewbaldlaw01_PlankMost.j0 k bt571.1 t581 bt585.1 (((bt571.1.length : Int) == (l0_1.length : Int)) != (bt587.2 == 0))) else (skewbaldlaw01_PlankMost.j0 k bt571.1 t581 bt585.1 true))) else (skewbaldlaw01_PlankMost.j0 k bt571.1 t581 bt585.1 true)) else (skewbaldlaw01_PlankMost.j0 k bt571.1 t581 bt585.1 true)) else (skewbaldlaw01_PlankMost.j0 k bt571.1 t581 bt585.1 true)) else (skewbaldlaw01_PlankMost.j0 k bt571.1 t581 bt585.1 true))))))))) else (if bt571.2 = 10 then (if (bt571.1.length : Int) = 0 then ((skewbaldlaw01_sawn.f).bind fun t576 => (some t576)) else (some false)) else (some false))))) = some true := h
 clear h
 replace H := Option.bind_eq_some_iff.mp H
 obtain ⟨⟨t571, t574⟩, A30, H⟩ := H
 replace H : ((skewbaldlaw01_sound.f k l0_0 l0_1).bind fun t575 => (if t575 = true then ((skewbaldref00_Set.f k t571).bind fun t577 => ((skewbaldlaw01_enough.f k l0_0 l0_1 (wrap64 ((shl .i64 1 (l0_0.length : Int)) - 1)) t577).bind fun bt578 => ((skewbaldref00_Round.f a1 (shl .i64 1 (l0_1.length : Int))).bind fun t580 => ((skewbaldref00_List.f k t580 (l0_1.length : Int)).bind fun t581 => ((skewbaldref00_Set.f k t581).bind fun t584 => ((skewbaldlaw01_enough.f k l0_0 l0_1 (wrap64 ((shl .i64 1 (l0_0.length : Int)) - 1)) t584).bind fun bt585 => ((plank_Fewest.f l0_0 l0_1).bind fun bt587 => (if t574 = 0 then (if bt578.2 = true then (if bt585.2 = true then (if bt578.1 = true then ((skewbaldref00_Grows.f k t571 (l0_1.length : Int)).bind fun t591 => (if t591 = true then (skewbaldlaw01_PlankMost.j0 k t571 t581 bt585.1 (((t571.length : Int) == (l0_1.length : Int)) != (bt587.2 == 0))) else (skewbaldlaw01_PlankMost.j0 k t571 t581 bt585.1 true))) else (skewbaldlaw01_PlankMost.j0 k t571 t581 bt585.1 true)) else (skewbaldlaw01_PlankMost.j0 k t571 t581 bt585.1 true)) else (skewbaldlaw01_PlankMost.j0 k t571 t581 bt585.1 true)) else (skewbaldlaw01_PlankMost.j0 k t571 t581 bt585.1 true))))))))) else (if t574 = 10 then (if (t571.length : Int) = 0 then ((skewbaldlaw01_sawn.f).bind fun t576 => (some t576)) else (some false)) else (some false)))) = some true := H
 have A3 := Aside0.mk A30
 clear A30
 replace H := Option.bind_eq_some_iff.mp H
 obtain ⟨t575, A40, H⟩ := H
 replace H : (if t575 = true then ((skewbaldref00_Set.f k t571).bind fun t577 => ((skewbaldlaw01_enough.f k l0_0 l0_1 (wrap64 ((shl .i64 1 (l0_0.length : Int)) - 1)) t577).bind fun bt578 => ((skewbaldref00_Round.f a1 (shl .i64 1 (l0_1.length : Int))).bind fun t580 => ((skewbaldref00_List.f k t580 (l0_1.length : Int)).bind fun t581 => ((skewbaldref00_Set.f k t581).bind fun t584 => ((skewbaldlaw01_enough.f k l0_0 l0_1 (wrap64 ((shl .i64 1 (l0_0.length : Int)) - 1)) t584).bind fun bt585 => ((plank_Fewest.f l0_0 l0_1).bind fun bt587 => (if t574 = 0 then (if bt578.2 = true then (if bt585.2 = true then (if bt578.1 = true then ((skewbaldref00_Grows.f k t571 (l0_1.length : Int)).bind fun t591 => (if t591 = true then (skewbaldlaw01_PlankMost.j0 k t571 t581 bt585.1 (((t571.length : Int) == (l0_1.length : Int)) != (bt587.2 == 0))) else (skewbaldlaw01_PlankMost.j0 k t571 t581 bt585.1 true))) else (skewbaldlaw01_PlankMost.j0 k t571 t581 bt585.1 true)) else (skewbaldlaw01_PlankMost.j0 k t571 t581 bt585.1 true)) else (skewbaldlaw01_PlankMost.j0 k t571 t581 bt585.1 true)) else (skewbaldlaw01_PlankMost.j0 k t571 t581 bt585.1 true))))))))) else (if t574 = 10 then (if (t571.length : Int) = 0 then ((skewbaldlaw01_sawn.f).bind fun t576 => (some t576)) else (some false)) else (some false))) = some true := H
 have A4 := Aside0.mk A40
 clear A40
 by_cases c5 : t575 = true
 ·subst c5
  have H1 : ((skewbaldref00_Set.f k t571).bind fun t577 => ((skewbaldlaw01_enough.f k l0_0 l0_1 (wrap64 ((shl .i64 1 (l0_0.length : Int)) - 1)) t577).bind fun bt578 => ((skewbaldref00_Round.f a1 (shl .i64 1 (l0_1.length : Int))).bind fun t580 => ((skewbaldref00_List.f k t580 (l0_1.length : Int)).bind fun t581 => ((skewbaldref00_Set.f k t581).bind fun t584 => ((skewbaldlaw01_enough.f k l0_0 l0_1 (wrap64 ((shl .i64 1 (l0_0.length : Int)) - 1)) t584).bind fun bt585 => ((plank_Fewest.f l0_0 l0_1).bind fun bt587 => (if t574 = 0 then (if bt578.2 = true then (if bt585.2 = true then (if bt578.1 = true then ((skewbaldref00_Grows.f k t571 (l0_1.length : Int)).bind fun t591 => (if t591 = true then (skewbaldlaw01_PlankMost.j0 k t571 t581 bt585.1 (((t571.length : Int) == (l0_1.length : Int)) != (bt587.2 == 0))) else (skewbaldlaw01_PlankMost.j0 k t571 t581 bt585.1 true))) else (skewbaldlaw01_PlankMost.j0 k t571 t581 bt585.1 true)) else (skewbaldlaw01_PlankMost.j0 k t571 t581 bt585.1 true)) else (skewbaldlaw01_PlankMost.j0 k t571 t581 bt585.1 true)) else (skewbaldlaw01_PlankMost.j0 k t571 t581 bt585.1 true))))))))) = some true := by rw [if_pos rfl] at H; exact H
  clear H
  have H := H1
  clear H1
  obtain ⟨ji6, hji6⟩ : ∃ j_ : Int, (shl .i64 1 (l0_0.length : Int)) = j_ := ⟨_, rfl⟩
  replace H : ((skewbaldref00_Set.f k t571).bind fun t577 => ((skewbaldlaw01_enough.f k l0_0 l0_1 (wrap64 ((ji6) - 1)) t577).bind fun bt578 => ((skewbaldref00_Round.f a1 (shl .i64 1 (l0_1.length : Int))).bind fun t580 => ((skewbaldref00_List.f k t580 (l0_1.length : Int)).bind fun t581 => ((skewbaldref00_Set.f k t581).bind fun t584 => ((skewbaldlaw01_enough.f k l0_0 l0_1 (wrap64 ((ji6) - 1)) t584).bind fun bt585 => ((plank_Fewest.f l0_0 l0_1).bind fun bt587 => (if t574 = 0 then (if bt578.2 = true then (if bt585.2 = true then (if bt578.1 = true then ((skewbaldref00_Grows.f k t571 (l0_1.length : Int)).bind fun t591 => (if t591 = true then (skewbaldlaw01_PlankMost.j0 k t571 t581 bt585.1 (((t571.length : Int) == (l0_1.length : Int)) != (bt587.2 == 0))) else (skewbaldlaw01_PlankMost.j0 k t571 t581 bt585.1 true))) else (skewbaldlaw01_PlankMost.j0 k t571 t581 bt585.1 true)) else (skewbaldlaw01_PlankMost.j0 k t571 t581 bt585.1 true)) else (skewbaldlaw01_PlankMost.j0 k t571 t581 bt585.1 true)) else (skewbaldlaw01_PlankMost.j0 k t571 t581 bt585.1 true))))))))) = some true := by first | (rw [hji6] at H; exact H) | (simp only [hji6] at H ⊢; exact H)
  (try rw [hji6] at A3)
  (try rw [hji6] at A4)
  have hji6_ : (IntKind.i64.wrap (1 * 2 ^ min (l0_0.length : Int).toNat 64)) = ji6 := hji6
  have hji6z : (l0_0.length : Int) ≤ 64 → (IntKind.i64.wrap (1 * 2 ^ (l0_0.length : Int).toNat)) = ji6 := shl_small hji6
  have hji6p : (IntKind.i64.wrap (1 * 2 ^ min l0_0.length 64)) = ji6 := hji6_
  have hji6q : (l0_0.length : Int) ≤ 64 → (IntKind.i64.wrap (1 * 2 ^ l0_0.length)) = ji6 := hji6z
  have hji6r : (IntKind.i64.wrap (2 ^ min l0_0.length 64)) = ji6 := by have h_ := hji6p; rw [Int.one_mul] at h_; exact h_
  have hji6s : (l0_0.length : Int) ≤ 64 → (IntKind.i64.wrap (2 ^ l0_0.length)) = ji6 := fun hle_ => by have h_ := hji6q hle_; rw [Int.one_mul] at h_; exact h_
  have hji6u : (IntKind.i64.wrap (2 ^ min (l0_0.length : Int).toNat 64)) = ji6 := by have h_ := hji6_; rw [Int.one_mul] at h_; exact h_
  have hji6v : (l0_0.length : Int) ≤ 64 → (IntKind.i64.wrap (2 ^ (l0_0.length : Int).toNat)) = ji6 := fun hle_ => by have h_ := hji6z hle_; rw [Int.one_mul] at h_; exact h_
  have hji6y : (wrap64 (1 * 2 ^ min (l0_0.length : Int).toNat 64)) = ji6 := (i64_w _).symm.trans hji6_
  have hji6x : (l0_0.length : Int) ≤ 64 → (wrap64 (1 * 2 ^ (l0_0.length : Int).toNat)) = ji6 := fun h_ => (i64_w _).symm.trans (hji6z h_)
  have hji6A : (wrap64 (2 ^ min (l0_0.length : Int).toNat 64)) = ji6 := (i64_w _).symm.trans hji6u
  have hji6B : (l0_0.length : Int) ≤ 64 → (wrap64 (2 ^ (l0_0.length : Int).toNat)) = ji6 := fun h_ => (i64_w _).symm.trans (hji6v h_)
  have hji6C : (wrap64 (2 ^ min l0_0.length 64)) = ji6 := (i64_w _).symm.trans hji6r
  have hji6D : (l0_0.length : Int) ≤ 64 → (wrap64 (2 ^ l0_0.length)) = ji6 := fun h_ => (i64_w _).symm.trans (hji6s h_)
  replace H := Option.bind_eq_some_iff.mp H
  obtain ⟨t577, A70, H⟩ := H
  replace H : ((skewbaldlaw01_enough.f k l0_0 l0_1 (wrap64 ((ji6) - 1)) t577).bind fun bt578 => ((skewbaldref00_Round.f a1 (shl .i64 1 (l0_1.length : Int))).bind fun t580 => ((skewbaldref00_List.f k t580 (l0_1.length : Int)).bind fun t581 => ((skewbaldref00_Set.f k t581).bind fun t584 => ((skewbaldlaw01_enough.f k l0_0 l0_1 (wrap64 ((ji6) - 1)) t584).bind fun bt585 => ((plank_Fewest.f l0_0 l0_1).bind fun bt587 => (if t574 = 0 then (if bt578.2 = true then (if bt585.2 = true then (if bt578.1 = true then ((skewbaldref00_Grows.f k t571 (l0_1.length : Int)).bind fun t591 => (if t591 = true then (skewbaldlaw01_PlankMost.j0 k t571 t581 bt585.1 (((t571.length : Int) == (l0_1.length : Int)) != (bt587.2 == 0))) else (skewbaldlaw01_PlankMost.j0 k t571 t581 bt585.1 true))) else (skewbaldlaw01_PlankMost.j0 k t571 t581 bt585.1 true)) else (skewbaldlaw01_PlankMost.j0 k t571 t581 bt585.1 true)) else (skewbaldlaw01_PlankMost.j0 k t571 t581 bt585.1 true)) else (skewbaldlaw01_PlankMost.j0 k t571 t581 bt585.1 true)))))))) = some true := H
  have A7 := Aside0.mk A70
  clear A70
  replace H := Option.bind_eq_some_iff.mp H
  obtain ⟨⟨t578, t579⟩, A80, H⟩ := H
  replace H : ((skewbaldref00_Round.f a1 (shl .i64 1 (l0_1.length : Int))).bind fun t580 => ((skewbaldref00_List.f k t580 (l0_1.length : Int)).bind fun t581 => ((skewbaldref00_Set.f k t581).bind fun t584 => ((skewbaldlaw01_enough.f k l0_0 l0_1 (wrap64 ((ji6) - 1)) t584).bind fun bt585 => ((plank_Fewest.f l0_0 l0_1).bind fun bt587 => (if t574 = 0 then (if t579 = true then (if bt585.2 = true then (if t578 = true then ((skewbaldref00_Grows.f k t571 (l0_1.length : Int)).bind fun t591 => (if t591 = true then (skewbaldlaw01_PlankMost.j0 k t571 t581 bt585.1 (((t571.length : Int) == (l0_1.length : Int)) != (bt587.2 == 0))) else (skewbaldlaw01_PlankMost.j0 k t571 t581 bt585.1 true))) else (skewbaldlaw01_PlankMost.j0 k t571 t581 bt585.1 true)) else (skewbaldlaw01_PlankMost.j0 k t571 t581 bt585.1 true)) else (skewbaldlaw01_PlankMost.j0 k t571 t581 bt585.1 true)) else (skewbaldlaw01_PlankMost.j0 k t571 t581 bt585.1 true))))))) = some true := H
  have A8 := Aside0.mk A80
  clear A80
  obtain ⟨ji9, hji9⟩ : ∃ j_ : Int, (shl .i64 1 (l0_1.length : Int)) = j_ := ⟨_, rfl⟩
  replace H : ((skewbaldref00_Round.f a1 (ji9)).bind fun t580 => ((skewbaldref00_List.f k t580 (l0_1.length : Int)).bind fun t581 => ((skewbaldref00_Set.f k t581).bind fun t584 => ((skewbaldlaw01_enough.f k l0_0 l0_1 (wrap64 ((ji6) - 1)) t584).bind fun bt585 => ((plank_Fewest.f l0_0 l0_1).bind fun bt587 => (if t574 = 0 then (if t579 = true then (if bt585.2 = true then (if t578 = true then ((skewbaldref00_Grows.f k t571 (l0_1.length : Int)).bind fun t591 => (if t591 = true then (skewbaldlaw01_PlankMost.j0 k t571 t581 bt585.1 (((t571.length : Int) == (l0_1.length : Int)) != (bt587.2 == 0))) else (skewbaldlaw01_PlankMost.j0 k t571 t581 bt585.1 true))) else (skewbaldlaw01_PlankMost.j0 k t571 t581 bt585.1 true)) else (skewbaldlaw01_PlankMost.j0 k t571 t581 bt585.1 true)) else (skewbaldlaw01_PlankMost.j0 k t571 t581 bt585.1 true)) else (skewbaldlaw01_PlankMost.j0 k t571 t581 bt585.1 true))))))) = some true := by first | (rw [hji9] at H; exact H) | (simp only [hji9] at H ⊢; exact H)
  (try rw [hji9] at A3)
  (try rw [hji9] at A4)
  (try rw [hji9] at A7)
  (try rw [hji9] at A8)
  have hji9_ : (IntKind.i64.wrap (1 * 2 ^ min (l0_1.length : Int).toNat 64)) = ji9 := hji9
  have hji9z : (l0_1.length : Int) ≤ 64 → (IntKind.i64.wrap (1 * 2 ^ (l0_1.length : Int).toNat)) = ji9 := shl_small hji9
  have hji9p : (IntKind.i64.wrap (1 * 2 ^ min l0_1.length 64)) = ji9 := hji9_
  have hji9q : (l0_1.length : Int) ≤ 64 → (IntKind.i64.wrap (1 * 2 ^ l0_1.length)) = ji9 := hji9z
  have hji9r : (IntKind.i64.wrap (2 ^ min l0_1.length 64)) = ji9 := by have h_ := hji9p; rw [Int.one_mul] at h_; exact h_
  have hji9s : (l0_1.length : Int) ≤ 64 → (IntKind.i64.wrap (2 ^ l0_1.length)) = ji9 := fun hle_ => by have h_ := hji9q hle_; rw [Int.one_mul] at h_; exact h_
  have hji9u : (IntKind.i64.wrap (2 ^ min (l0_1.length : Int).toNat 64)) = ji9 := by have h_ := hji9_; rw [Int.one_mul] at h_; exact h_
  have hji9v : (l0_1.length : Int) ≤ 64 → (IntKind.i64.wrap (2 ^ (l0_1.length : Int).toNat)) = ji9 := fun hle_ => by have h_ := hji9z hle_; rw [Int.one_mul] at h_; exact h_
  have hji9y : (wrap64 (1 * 2 ^ min (l0_1.length : Int).toNat 64)) = ji9 := (i64_w _).symm.trans hji9_
  have hji9x : (l0_1.length : Int) ≤ 64 → (wrap64 (1 * 2 ^ (l0_1.length : Int).toNat)) = ji9 := fun h_ => (i64_w _).symm.trans (hji9z h_)
  have hji9A : (wrap64 (2 ^ min (l0_1.length : Int).toNat 64)) = ji9 := (i64_w _).symm.trans hji9u
  have hji9B : (l0_1.length : Int) ≤ 64 → (wrap64 (2 ^ (l0_1.length : Int).toNat)) = ji9 := fun h_ => (i64_w _).symm.trans (hji9v h_)
  have hji9C : (wrap64 (2 ^ min l0_1.length 64)) = ji9 := (i64_w _).symm.trans hji9r
  have hji9D : (l0_1.length : Int) ≤ 64 → (wrap64 (2 ^ l0_1.length)) = ji9 := fun h_ => (i64_w _).symm.trans (hji9s h_)
  replace H := Option.bind_eq_some_iff.mp H
  obtain ⟨t580, A100, H⟩ := H
  replace H : ((skewbaldref00_List.f k t580 (l0_1.length : Int)).bind fun t581 => ((skewbaldref00_Set.f k t581).bind fun t584 => ((skewbaldlaw01_enough.f k l0_0 l0_1 (wrap64 ((ji6) - 1)) t584).bind fun bt585 => ((plank_Fewest.f l0_0 l0_1).bind fun bt587 => (if t574 = 0 then (if t579 = true then (if bt585.2 = true then (if t578 = true then ((skewbaldref00_Grows.f k t571 (l0_1.length : Int)).bind fun t591 => (if t591 = true then (skewbaldlaw01_PlankMost.j0 k t571 t581 bt585.1 (((t571.length : Int) == (l0_1.length : Int)) != (bt587.2 == 0))) else (skewbaldlaw01_PlankMost.j0 k t571 t581 bt585.1 true))) else (skewbaldlaw01_PlankMost.j0 k t571 t581 bt585.1 true)) else (skewbaldlaw01_PlankMost.j0 k t571 t581 bt585.1 true)) else (skewbaldlaw01_PlankMost.j0 k t571 t581 bt585.1 true)) else (skewbaldlaw01_PlankMost.j0 k t571 t581 bt585.1 true)))))) = some true := H
  have A10 := Aside0.mk A100
  clear A100
  replace H := Option.bind_eq_some_iff.mp H
  obtain ⟨t581, A110, H⟩ := H
  replace H : ((skewbaldref00_Set.f k t581).bind fun t584 => ((skewbaldlaw01_enough.f k l0_0 l0_1 (wrap64 ((ji6) - 1)) t584).bind fun bt585 => ((plank_Fewest.f l0_0 l0_1).bind fun bt587 => (if t574 = 0 then (if t579 = true then (if bt585.2 = true then (if t578 = true then ((skewbaldref00_Grows.f k t571 (l0_1.length : Int)).bind fun t591 => (if t591 = true then (skewbaldlaw01_PlankMost.j0 k t571 t581 bt585.1 (((t571.length : Int) == (l0_1.length : Int)) != (bt587.2 == 0))) else (skewbaldlaw01_PlankMost.j0 k t571 t581 bt585.1 true))) else (skewbaldlaw01_PlankMost.j0 k t571 t581 bt585.1 true)) else (skewbaldlaw01_PlankMost.j0 k t571 t581 bt585.1 true)) else (skewbaldlaw01_PlankMost.j0 k t571 t581 bt585.1 true)) else (skewbaldlaw01_PlankMost.j0 k t571 t581 bt585.1 true))))) = some true := H
  have A11 := Aside0.mk A110
  clear A110
  replace H := Option.bind_eq_some_iff.mp H
  obtain ⟨t584, A120, H⟩ := H
  replace H : ((skewbaldlaw01_enough.f k l0_0 l0_1 (wrap64 ((ji6) - 1)) t584).bind fun bt585 => ((plank_Fewest.f l0_0 l0_1).bind fun bt587 => (if t574 = 0 then (if t579 = true then (if bt585.2 = true then (if t578 = true then ((skewbaldref00_Grows.f k t571 (l0_1.length : Int)).bind fun t591 => (if t591 = true then (skewbaldlaw01_PlankMost.j0 k t571 t581 bt585.1 (((t571.length : Int) == (l0_1.length : Int)) != (bt587.2 == 0))) else (skewbaldlaw01_PlankMost.j0 k t571 t581 bt585.1 true))) else (skewbaldlaw01_PlankMost.j0 k t571 t581 bt585.1 true)) else (skewbaldlaw01_PlankMost.j0 k t571 t581 bt585.1 true)) else (skewbaldlaw01_PlankMost.j0 k t571 t581 bt585.1 true)) else (skewbaldlaw01_PlankMost.j0 k t571 t581 bt585.1 true)))) = some true := H
  have A12 := Aside0.mk A120
  clear A120
  replace H := Option.bind_eq_some_iff.mp H
  obtain ⟨⟨t585, t586⟩, A130, H⟩ := H
  replace H : ((plank_Fewest.f l0_0 l0_1).bind fun bt587 => (if t574 = 0 then (if t579 = true then (if t586 = true then (if t578 = true then ((skewbaldref00_Grows.f k t571 (l0_1.length : Int)).bind fun t591 => (if t591 = true then (skewbaldlaw01_PlankMost.j0 k t571 t581 t585 (((t571.length : Int) == (l0_1.length : Int)) != (bt587.2 == 0))) else (skewbaldlaw01_PlankMost.j0 k t571 t581 t585 true))) else (skewbaldlaw01_PlankMost.j0 k t571 t581 t585 true)) else (skewbaldlaw01_PlankMost.j0 k t571 t581 t585 true)) else (skewbaldlaw01_PlankMost.j0 k t571 t581 t585 true)) else (skewbaldlaw01_PlankMost.j0 k t571 t581 t585 true))) = some true := H
  have A13 := Aside0.mk A130
  clear A130
  replace H := Option.bind_eq_some_iff.mp H
  obtain ⟨⟨t587, t590⟩, A140, H⟩ := H
  replace H : (if t574 = 0 then (if t579 = true then (if t586 = true then (if t578 = true then ((skewbaldref00_Grows.f k t571 (l0_1.length : Int)).bind fun t591 => (if t591 = true then (skewbaldlaw01_PlankMost.j0 k t571 t581 t585 (((t571.length : Int) == (l0_1.length : Int)) != (t590 == 0))) else (skewbaldlaw01_PlankMost.j0 k t571 t581 t585 true))) else (skewbaldlaw01_PlankMost.j0 k t571 t581 t585 true)) else (skewbaldlaw01_PlankMost.j0 k t571 t581 t585 true)) else (skewbaldlaw01_PlankMost.j0 k t571 t581 t585 true)) else (skewbaldlaw01_PlankMost.j0 k t571 t581 t585 true)) = some true := H
  have A14 := Aside0.mk A140
  clear A140
  have HC15 := Aside0.mk H
  clear H
  go_enter Tryd.func10, Tryd.ntmps10
  try go_wp2_with (first | ((with_reducible refine gate_dst (N := 2) rfl ?_); (try (refine gate_guard (by rfl) ?_; dsimp only)); refine box_event ?hg (N := 2) ?hd (cs := #[.slice A0_0 l0_0.length c0_0, .slice A0_1 l0_1.length c0_1]) (t := 25) ?hr ?_; (case hd => rfl); (case hg => rfl); (case hr => first | (go_simp; done) | (go_simp; rfl)); intro gb570 hg w16 hbox hb; have n0_ := Aside0.mk (below_step bl hb); have n1_ := Aside0.mk (hbox); have n2_ := Aside0.mk ((by rw [hg]; exact (below_size bl) : w.heap.size ≤ gb570)); have n3_ := Aside0.mk ((by rw [hg]; exact (below_size bl) : w.heap.size ≤ gb570)); clear HB; have HB := n0_; have BK570 := n1_; have GW570 := n2_; have GE570 := n3_; clear n0_ n1_ n2_ n3_; clear hb hbox hg; have hcz17_0 : w16.cell? ⟨gb570, 0, none⟩ = some (.slice A0_0 l0_0.length c0_0) := (blk_cell BK570.out 0).trans rfl; have hcz17_1 : w16.cell? ⟨gb570, 1, none⟩ = some (.slice A0_1 l0_1.length c0_1) := (blk_cell BK570.out 1).trans rfl; have hfz17_0 := blk_frozen BK570.out 0; have hfz17_1 := blk_frozen BK570.out 1) | ((with_reducible refine gate_callee (f := 26) rfl ?_); refine goesL_ (some 17) rfl rfl Tryd.func26 (by kernel_rfl) rfl #[.agg #[.slice A0_0 l0_0.length c0_0, .slice A0_1 l0_1.length c0_1]] rfl (by (try simp only [List.map_toArray, List.map_cons, List.map_nil]); first | done | rfl | (simp only [List.length_drop, List.length_take]; rfl)) ?_; (with_reducible refine (plank_Most.calls _ _ l0_0 _ _ l0_1 t571 t574 _ ?side1 ?side2 ?side3 ?side4 ?side5 A3.out).mono ?_); (case side1 => exact cl); (case side2 => exact HC0_0.out); (case side3 => exact cl); (case side4 => exact HC0_1.out); (case side5 => exact Glob.below HGL.out bl); rintro e w18 ⟨v572, rfl, ho0, hb⟩; refine ⟨_, rfl, ?_⟩; have n0_ := Aside0.mk (Kd.V_lower (Kd.V_mono (ok' := fun k_ => k_ ≠ gb570) ho0 (fun k_ hk_ => (Kd.freshB (g := gb570) (o := .cells #[.slice A0_0 l0_0.length c0_0, .slice A0_1 l0_1.length c0_1] 25 (0, 0)) bk k_ hk_))) (below_size bl)); have n1_ := Aside0.mk (blk_below (g := gb570) (o := .cells #[.slice A0_0 l0_0.length c0_0, .slice A0_1 l0_1.length c0_1] 25 (0, 0)) bk hb); have n2_ := Aside0.mk (below_step bl hb); clear BK570; clear HB; have HO573 := n0_; have BK570 := n1_; have HB := n2_; clear n0_ n1_ n2_; (try clear hb); (try clear hb2); (try clear hk); (try clear hi); (try clear ho0); have hcz19_0 : w18.cell? ⟨gb570, 0, none⟩ = some (.slice A0_0 l0_0.length c0_0) := (blk_cell BK570.out 0).trans rfl; have hcz19_1 : w18.cell? ⟨gb570, 1, none⟩ = some (.slice A0_1 l0_1.length c0_1) := (blk_cell BK570.out 1).trans rfl; have hfz19_0 := blk_frozen BK570.out 0; have hfz19_1 := blk_frozen BK570.out 1) | ((with_reducible refine gate_callee (f := 34) rfl ?_); refine goesL_ (some 21) rfl rfl Tryd.func34 (by kernel_rfl) rfl #[.agg #[.slice A0_0 l0_0.length c0_0, .slice A0_1 l0_1.length c0_1]] rfl (by (try simp only [List.map_toArray, List.map_cons, List.map_nil]); first | done | rfl | (simp only [List.length_drop, List.length_take]; rfl)) ?_; (with_reducible refine (skewbaldlaw01_sound.calls k _ _ l0_0 _ _ l0_1 true _ ?side1 ?side2 ?side3 ?side4 A4.out).mono ?_); (case side1 => exact cl); (case side2 => exact HC0_0.out); (case side3 => exact cl); (case side4 => exact HC0_1.out); rintro e w20 ⟨rfl, hb⟩; refine ⟨_, rfl, ?_⟩; have n0_ := Aside0.mk (Kd.V_below (by (with_reducible repeat (first | apply Kd.V_alloc | apply Kd.V_drewN | apply Kd.V_drew)); exact HO573.out) hb); have n1_ := Aside0.mk (blk_below (g := gb570) (o := .cells #[.slice A0_0 l0_0.length c0_0, .slice A0_1 l0_1.length c0_1] 25 (0, 0)) bk hb); have n2_ := Aside0.mk (below_step bl hb); clear HO573; clear BK570; clear HB; have HO573 := n0_; have BK570 := n1_; have HB := n2_; clear n0_ n1_ n2_; (try clear hb); (try clear hb2); (try clear hk); (try clear hi); have hcz21_0 : w20.cell? ⟨gb570, 0, none⟩ = some (.slice A0_0 l0_0.length c0_0) := (blk_cell BK570.out 0).trans rfl; have hcz21_1 : w20.cell? ⟨gb570, 1, none⟩ = some (.slice A0_1 l0_1.length c0_1) := (blk_cell BK570.out 1).trans rfl; have hfz21_0 := blk_frozen BK570.out 0; have hfz21_1 := blk_frozen BK570.out 1))
  have n0_ := Aside0.mk (Kd.V_drew HO573.out)
  have n1_ := Aside0.mk (blk_drew BK570.out)
  have n2_ := Aside0.mk (below_drew1 HB.out)
  clear HO573
  clear BK570
  clear HB
  have HO573 := n0_
  have BK570 := n1_
  have HB := n2_
  clear n0_ n1_ n2_
  obtain ⟨Ao23, co23, eo23⟩ := Kd.V_slice HO573.out
  (first | subst eo23 | (injection eo23 with f1_ f2_ f3_; have f4_ := f1_.symm; have f5_ := f3_.symm; clear f1_ f2_ f3_; subst f4_; subst f5_))
  refine start_ (n := 10) (S := fun w' => w'.cell? ⟨gb570, 0, none⟩ = some (.slice A0_0 l0_0.length c0_0) ∧ w'.cell? ⟨gb570, 1, none⟩ = some (.slice A0_1 l0_1.length c0_1)) (ds := []) #[false, false, false, false, false, false, false, false, false, false] (by kernel_rfl) rfl rfl ⟨(blk_cell BK570.out 0).trans rfl, (blk_cell BK570.out 1).trans rfl⟩ (fun hHeld => ?_); refine with_tabW skewbaldlaw01_PlankMost.tab5 skewbaldlaw01_PlankMost.bits5 (fun HT_ HW_ => ?_)
  generalize w20.drew = w22 at HO573 BK570 HB hHeld ⊢
  refine pure_ (i := 1) (N := some 40) (v := ?_) (a' := ?_) #[false, true, false, false, false, false, false, false, false, false] rfl rfl (any_of HT_.out (by kernel_rfl)) (fun _ _ _ h => h) (Or.inl ⟨by rfl, ?_⟩) ?_ ?_
  rotate_left
  ·intro w'
   go_simp
   with_reducible rfl
  rotate_left
  ·simp only [Act.put, List.setIfInBounds_toArray, List.set_cons_zero, List.set_cons_succ, i64_w, i32_w]
   rfl
  refine pure_ (i := 2) (N := some 41) (v := ?_) (a' := ?_) #[false, true, true, false, false, false, false, false, false, false] rfl rfl (any_of HT_.out (by kernel_rfl)) (fun _ _ _ h => h) (Or.inl ⟨by rfl, ?_⟩) ?_ ?_
  rotate_left
  ·intro w'
   go_simp
   with_reducible rfl
  rotate_left
  ·simp only [Act.put, List.setIfInBounds_toArray, List.set_cons_zero, List.set_cons_succ, i64_w, i32_w]
   rfl
  refine take_ (i := 0) (N := some 39) (v := ?_) (a' := ?_) #[true, true, true, false, false, false, false, false, false, false] rfl rfl (take_ofW HT_.out HW_.out (by kernel_rfl)) (fun _ _ _ h => h) (Or.inl ⟨by rfl, ?_⟩) hHeld ?_ ?_
  rotate_left
  ·rintro w' ⟨s0, s1⟩
   go_simp
   with_reducible rfl
  rotate_left
  ·simp only [Act.put, List.setIfInBounds_toArray, List.set_cons_zero, List.set_cons_succ, i64_w, i32_w]
   rfl
  refine one_ (i := 3) (N := some 42) #[true, true, true, true, false, false, false, false, false, false] rfl rfl (one_of HT_.out (by kernel_rfl)) (by decide) (fun K hK => ?_)
  refine goes_ Tryd.func49 (by kernel_rfl) rfl #[.slice Ao23 t571.length co23] (by rfl) rfl rfl (by (try simp only [List.map_toArray, List.map_cons, List.map_nil]); first | done | rfl | (simp only [List.length_drop, List.length_take]; rfl)) ?_
  with_reducible refine (skewbaldref00_Set.calls k _ _ t571 t577 _ ?side1 ?side2 A7.out).mono ?_
  (case side1 => repeat (first | exact (Kd.V_reads' HO573.out).2.2 | (with_reducible refine Kd.C_alloc ?_ _) | (with_reducible refine Kd.C_drewN ?_ _) | (with_reducible refine Kd.C_drew ?_)))
  (case side2 => exact (Kd.V_reads' HO573.out).2.1)
  rintro e w' ⟨rfl, ⟨nd, rfl⟩⟩
  refine ⟨_, rfl, ?_⟩
  refine hK.out _ _ ⟨(blk_cell BK570.out 0).trans rfl, (blk_cell BK570.out 1).trans rfl⟩ (fun hHeld => ?_)
  clear hK K
  refine norm_ (a' := ?_) ?_ ?_
  rotate_left
  ·show Act.put _ (some 42) _ = _
   simp only [Act.put, List.setIfInBounds_toArray, List.set_cons_zero, List.set_cons_succ, i64_w, i32_w]
   rfl
  refine one_ (i := 4) (N := some 43) #[true, true, true, true, true, false, false, false, false, false] rfl rfl (one_of HT_.out (by kernel_rfl)) (by decide) (fun K hK => ?_)
  refine goes_ Tryd.func46 (by kernel_rfl) rfl #[.agg #[.slice A0_0 l0_0.length c0_0, .slice A0_1 l0_1.length c0_1], .int .i64 (wrap64 ((ji6) - 1)), .int .i64 t577] (by rfl) rfl rfl (by (try simp only [List.map_toArray, List.map_cons, List.map_nil]); first | done | (simp only [hji6]; rfl) | rfl | (simp only [List.length_drop, List.length_take]; rfl)) ?_
  with_reducible refine (skewbaldlaw01_enough.calls k _ _ l0_0 _ _ l0_1 (wrap64 ((ji6) - 1)) t577 t578 t579 _ ?side1 ?side2 ?side3 ?side4 ?side5 A8.out).mono ?_
  (case side1 => repeat (first | exact (Kd.C_below HR0_0.out bl) | (with_reducible refine Kd.C_alloc ?_ _) | (with_reducible refine Kd.C_drewN ?_ _) | (with_reducible refine Kd.C_drew ?_)))
  (case side2 => exact HC0_0.out)
  (case side3 => repeat (first | exact (Kd.C_below HR0_1.out bl) | (with_reducible refine Kd.C_alloc ?_ _) | (with_reducible refine Kd.C_drewN ?_ _) | (with_reducible refine Kd.C_drew ?_)))
  (case side4 => exact HC0_1.out)
  (case side5 => exact Glob.below HGL.out bl)
  rintro e w24 ⟨rfl, hb⟩
  refine ⟨_, rfl, ?_⟩
  have n0_ := Aside0.mk (Kd.V_below (by (with_reducible repeat (first | apply Kd.V_alloc | apply Kd.V_drewN | apply Kd.V_drew)); exact HO573.out) hb)
  have n1_ := Aside0.mk (blk_below (g := gb570) (o := .cells #[.slice A0_0 l0_0.length c0_0, .slice A0_1 l0_1.length c0_1] 25 (0, 0)) bk hb)
  have n2_ := Aside0.mk (below_step bl hb)
  clear HO573
  clear BK570
  clear HB
  have HO573 := n0_
  have BK570 := n1_
  have HB := n2_
  clear n0_ n1_ n2_
  (try clear hb)
  (try clear hb2)
  (try clear hk)
  (try clear hi)
  refine hK.out _ _ ⟨(blk_cell BK570.out 0).trans rfl, (blk_cell BK570.out 1).trans rfl⟩ (fun hHeld => ?_)
  clear hK K
  refine norm_ (a' := ?_) ?_ ?_
  rotate_left
  ·show Act.put _ (some 43) _ = _
   simp only [Act.put, List.setIfInBounds_toArray, List.set_cons_zero, List.set_cons_succ, i64_w, i32_w]
   rfl
  refine pure_ (i := 5) (N := some 38) (v := ?_) (a' := ?_) #[true, true, true, true, true, true, false, false, false, false] rfl rfl (any_of HT_.out (by kernel_rfl)) (fun _ _ _ h => h) (Or.inl ⟨by rfl, ?_⟩) ?_ ?_
  rotate_left
  ·intro w'
   go_simp
   with_reducible rfl
  rotate_left
  ·simp only [Act.put, List.setIfInBounds_toArray, List.set_cons_zero, List.set_cons_succ, i64_w, i32_w]
   rfl
  refine pure_ (i := 6) (N := some 44) (v := ?_) (a' := ?_) #[true, true, true, true, true, true, true, false, false, false] rfl rfl (any_of HT_.out (by kernel_rfl)) (fun _ _ _ h => h) (Or.inl ⟨by rfl, ?_⟩) ?_ ?_
  rotate_left
  ·intro w'
   go_simp
   with_reducible rfl
  rotate_left
  ·simp only [Act.put, List.setIfInBounds_toArray, List.set_cons_zero, List.set_cons_succ, i64_w, i32_w]
   rfl
  refine pure_ (i := 7) (N := some 45) (v := ?_) (a' := ?_) #[true, true, true, true, true, true, true, true, false, false] rfl rfl (any_of HT_.out (by kernel_rfl)) (fun _ _ _ h => h) (Or.inl ⟨by rfl, ?_⟩) ?_ ?_
  rotate_left
  ·intro w'
   go_simp
   with_reducible rfl
  rotate_left
  ·simp only [Act.put, List.setIfInBounds_toArray, List.set_cons_zero, List.set_cons_succ, i64_w, i32_w]
   rfl
  refine pure_ (i := 8) (N := some 8) (v := ?_) (a' := ?_) #[true, true, true, true, true, true, true, true, true, false] rfl rfl (any_of HT_.out (by kernel_rfl)) (fun _ _ _ h => h) (Or.inl ⟨by rfl, ?_⟩) ?_ ?_
  rotate_left
  ·intro w'
   go_simp
   with_reducible rfl
  rotate_left
  ·simp only [Act.put, List.setIfInBounds_toArray, List.set_cons_zero, List.set_cons_succ, i64_w, i32_w]
   rfl
  refine pure_ (i := 9) (N := some 9) (v := ?_) (a' := ?_) #[true, true, true, true, true, true, true, true, true, true] rfl rfl (any_of HT_.out (by kernel_rfl)) (fun _ _ _ h => h) (Or.inl ⟨by rfl, ?_⟩) ?_ ?_
  rotate_left
  ·intro w'
   go_simp
   with_reducible rfl
  rotate_left
  ·simp only [Act.put, List.setIfInBounds_toArray, List.set_cons_zero, List.set_cons_succ, i64_w, i32_w]
   rfl
  refine done_ (done_of HT_.out (by kernel_rfl)) ?_
  try go_wp2
  have n0_ := Aside0.mk (Kd.V_drew HO573.out)
  have n1_ := Aside0.mk (blk_drew BK570.out)
  have n2_ := Aside0.mk (below_drew1 HB.out)
  clear HO573
  clear BK570
  clear HB
  have HO573 := n0_
  have BK570 := n1_
  have HB := n2_
  clear n0_ n1_ n2_
  refine start_ (n := 11) (S := fun w' => w'.cell? ⟨gb570, 0, none⟩ = some (.slice A0_0 l0_0.length c0_0) ∧ w'.cell? ⟨gb570, 1, none⟩ = some (.slice A0_1 l0_1.length c0_1)) (ds := []) #[false, false, false, false, false, false, false, false, false, false, false] (by kernel_rfl) rfl rfl ⟨(blk_cell BK570.out 0).trans rfl, (blk_cell BK570.out 1).trans rfl⟩ (fun hHeld => ?_); refine with_tabW skewbaldlaw01_PlankMost.tab6 skewbaldlaw01_PlankMost.bits6 (fun HT_ HW_ => ?_)
  generalize w24.drew = w25 at HO573 BK570 HB hHeld ⊢
  refine pure_ (i := 0) (N := some 46) (v := ?_) (a' := ?_) #[true, false, false, false, false, false, false, false, false, false, false] rfl rfl (any_of HT_.out (by kernel_rfl)) (fun _ _ _ h => h) (Or.inl ⟨by rfl, ?_⟩) ?_ ?_
  rotate_left
  ·intro w'
   go_simp
   with_reducible rfl
  rotate_left
  ·simp only [Act.put, List.setIfInBounds_toArray, List.set_cons_zero, List.set_cons_succ, i64_w, i32_w]
   rfl
  refine pure_ (i := 1) (N := some 47) (v := ?_) (a' := ?_) #[true, true, false, false, false, false, false, false, false, false, false] rfl rfl (any_of HT_.out (by kernel_rfl)) (fun _ _ _ h => h) (Or.inl ⟨by rfl, ?_⟩) ?_ ?_
  rotate_left
  ·intro w'
   go_simp
   with_reducible rfl
  rotate_left
  ·simp only [Act.put, List.setIfInBounds_toArray, List.set_cons_zero, List.set_cons_succ, i64_w, i32_w]
   rfl
  refine pure_ (i := 6) (N := some 52) (v := ?_) (a' := ?_) #[true, true, false, false, false, false, true, false, false, false, false] rfl rfl (any_of HT_.out (by kernel_rfl)) (fun _ _ _ h => h) (Or.inl ⟨by rfl, ?_⟩) ?_ ?_
  rotate_left
  ·intro w'
   go_simp
   with_reducible rfl
  rotate_left
  ·simp only [Act.put, List.setIfInBounds_toArray, List.set_cons_zero, List.set_cons_succ, i64_w, i32_w]
   rfl
  refine take_ (i := 2) (N := some 48) (v := ?_) (a' := ?_) #[true, true, true, false, false, false, true, false, false, false, false] rfl rfl (take_ofW HT_.out HW_.out (by kernel_rfl)) (fun _ _ _ h => h) (Or.inl ⟨by rfl, ?_⟩) hHeld ?_ ?_
  rotate_left
  ·rintro w' ⟨s0, s1⟩
   go_simp
   with_reducible rfl
  rotate_left
  ·simp only [Act.put, List.setIfInBounds_toArray, List.set_cons_zero, List.set_cons_succ, i64_w, i32_w]
   rfl
  refine pure_ (i := 3) (N := some 49) (v := ?_) (a' := ?_) #[true, true, true, true, false, false, true, false, false, false, false] rfl rfl (any_of HT_.out (by kernel_rfl)) (fun _ _ _ h => h) (Or.inl ⟨by rfl, ?_⟩) ?_ ?_
  rotate_left
  ·intro w'
   go_simp
   with_reducible rfl
  rotate_left
  ·simp only [Act.put, List.setIfInBounds_toArray, List.set_cons_zero, List.set_cons_succ, i64_w, i32_w]
   rfl
  refine pure_ (i := 4) (N := some 50) (v := ?_) (a' := ?_) #[true, true, true, true, true, false, true, false, false, false, false] rfl rfl (any_of HT_.out (by kernel_rfl)) (fun _ _ _ h => h) (Or.inl ⟨by rfl, ?_⟩) ?_ ?_
  rotate_left
  ·intro w'
   go_simp
   with_reducible rfl
  rotate_left
  ·simp only [Act.put, List.setIfInBounds_toArray, List.set_cons_zero, List.set_cons_succ, i64_w, i32_w]
   rfl
  refine take_ (i := 7) (N := some 53) (v := ?_) (a' := ?_) #[true, true, true, true, true, false, true, true, false, false, false] rfl rfl (take_ofW HT_.out HW_.out (by kernel_rfl)) (fun _ _ _ h => h) (Or.inl ⟨by rfl, ?_⟩) hHeld ?_ ?_
  rotate_left
  ·rintro w' ⟨s0, s1⟩
   go_simp
   with_reducible rfl
  rotate_left
  ·simp only [Act.put, List.setIfInBounds_toArray, List.set_cons_zero, List.set_cons_succ, i64_w, i32_w]
   rfl
  refine pure_ (i := 8) (N := some 54) (v := ?_) (a' := ?_) #[true, true, true, true, true, false, true, true, true, false, false] rfl rfl (any_of HT_.out (by kernel_rfl)) (fun _ _ _ h => h) (Or.inl ⟨by rfl, ?_⟩) ?_ ?_
  rotate_left
  ·intro w'
   go_simp
   with_reducible rfl
  rotate_left
  ·simp only [Act.put, List.setIfInBounds_toArray, List.set_cons_zero, List.set_cons_succ, i64_w, i32_w]
   rfl
  refine one_ (i := 5) (N := some 51) #[true, true, true, true, true, true, true, true, true, false, false] rfl rfl (one_of HT_.out (by kernel_rfl)) (by decide) (fun K hK => ?_)
  refine goes_ Tryd.func35 (by kernel_rfl) rfl #[.int .i64 a1, .int .i64 ji9] (by rfl) rfl rfl (by (try simp only [List.map_toArray, List.map_cons, List.map_nil]); first | done | (simp only [hji9]; rfl) | rfl | (simp only [List.length_drop, List.length_take]; rfl)) ?_
  with_reducible refine (skewbaldref00_Round.calls a1 ji9 t580 _ A10.out).mono ?_
  rintro e w' ⟨rfl, ⟨nd, rfl⟩⟩
  refine ⟨_, rfl, ?_⟩
  refine hK.out _ _ ⟨(blk_cell BK570.out 0).trans rfl, (blk_cell BK570.out 1).trans rfl⟩ (fun hHeld => ?_)
  clear hK K
  refine norm_ (a' := ?_) ?_ ?_
  rotate_left
  ·show Act.put _ (some 51) _ = _
   simp only [Act.put, List.setIfInBounds_toArray, List.set_cons_zero, List.set_cons_succ, i64_w, i32_w]
   rfl
  refine one_ (i := 9) (N := some 55) #[true, true, true, true, true, true, true, true, true, true, false] rfl rfl (one_of HT_.out (by kernel_rfl)) (by decide) (fun K hK => ?_)
  refine goes_ Tryd.func40 (by kernel_rfl) rfl #[.int .i64 t580, .int .i64 (l0_1.length : Int)] (by rfl) rfl rfl (by (try simp only [List.map_toArray, List.map_cons, List.map_nil]); first | done | rfl | (simp only [List.length_drop, List.length_take]; rfl)) ?_
  with_reducible refine (skewbaldref00_List.calls k t580 (l0_1.length : Int) t581 _ A11.out).mono ?_
  rintro e w26 ⟨v582, rfl, ho0, hb⟩
  refine ⟨_, rfl, ?_⟩
  have n0_ := Aside0.mk (Kd.V_elder' (by (with_reducible repeat (first | apply Kd.V_alloc | apply Kd.V_drewN | apply Kd.V_drew)); exact HO573.out) (Kd.R_base ho0) hb)
  have n1_ := Aside0.mk (Kd.R_lower ho0 (below_size bl))
  have n2_ := Aside0.mk (blk_below (g := gb570) (o := .cells #[.slice A0_0 l0_0.length c0_0, .slice A0_1 l0_1.length c0_1] 25 (0, 0)) bk hb)
  have n3_ := Aside0.mk (below_step bl hb)
  clear HO573
  clear BK570
  clear HB
  have HO573 := n0_
  have HO583 := n1_
  have BK570 := n2_
  have HB := n3_
  clear n0_ n1_ n2_ n3_
  (try clear hb)
  (try clear hb2)
  (try clear hk)
  (try clear hi)
  (try clear ho0)
  refine hK.out _ _ ⟨(blk_cell BK570.out 0).trans rfl, (blk_cell BK570.out 1).trans rfl⟩ (fun hHeld => ?_)
  clear hK K
  refine norm_ (a' := ?_) ?_ ?_
  rotate_left
  ·show Act.put _ (some 55) _ = _
   simp only [Act.put, List.setIfInBounds_toArray, List.set_cons_zero, List.set_cons_succ, i64_w, i32_w]
   rfl
  refine pure_ (i := 10) (N := some 10) (v := ?_) (a' := ?_) #[true, true, true, true, true, true, true, true, true, true, true] rfl rfl (any_of HT_.out (by kernel_rfl)) (fun _ _ _ h => h) (Or.inl ⟨by rfl, ?_⟩) ?_ ?_
  rotate_left
  ·intro w'
   go_simp
   with_reducible rfl
  rotate_left
  ·simp only [Act.put, List.setIfInBounds_toArray, List.set_cons_zero, List.set_cons_succ, i64_w, i32_w]
   rfl
  refine done_ (done_of HT_.out (by kernel_rfl)) ?_
  try go_wp2
  have n0_ := Aside0.mk (Kd.V_drew HO573.out)
  have n1_ := Aside0.mk (Kd.R_drew HO583.out)
  have n2_ := Aside0.mk (blk_drew BK570.out)
  have n3_ := Aside0.mk (below_drew1 HB.out)
  clear HO573
  clear HO583
  clear BK570
  clear HB
  have HO573 := n0_
  have HO583 := n1_
  have BK570 := n2_
  have HB := n3_
  clear n0_ n1_ n2_ n3_
  obtain ⟨Ao28, co28, eo28⟩ := Kd.R_slice HO583.out
  (first | subst eo28 | (injection eo28 with f1_ f2_ f3_; have f4_ := f1_.symm; have f5_ := f3_.symm; clear f1_ f2_ f3_; subst f4_; subst f5_))
  refine start_ (n := 10) (S := fun w' => w'.cell? ⟨gb570, 0, none⟩ = some (.slice A0_0 l0_0.length c0_0) ∧ w'.cell? ⟨gb570, 1, none⟩ = some (.slice A0_1 l0_1.length c0_1)) (ds := []) #[false, false, false, false, false, false, false, false, false, false] (by kernel_rfl) rfl rfl ⟨(blk_cell BK570.out 0).trans rfl, (blk_cell BK570.out 1).trans rfl⟩ (fun hHeld => ?_); refine with_tabW skewbaldlaw01_PlankMost.tab7 skewbaldlaw01_PlankMost.bits7 (fun HT_ HW_ => ?_)
  generalize w26.drew = w27 at HO573 HO583 BK570 HB hHeld ⊢
  refine pure_ (i := 1) (N := some 58) (v := ?_) (a' := ?_) #[false, true, false, false, false, false, false, false, false, false] rfl rfl (any_of HT_.out (by kernel_rfl)) (fun _ _ _ h => h) (Or.inl ⟨by rfl, ?_⟩) ?_ ?_
  rotate_left
  ·intro w'
   go_simp
   with_reducible rfl
  rotate_left
  ·simp only [Act.put, List.setIfInBounds_toArray, List.set_cons_zero, List.set_cons_succ, i64_w, i32_w]
   rfl
  refine pure_ (i := 2) (N := some 59) (v := ?_) (a' := ?_) #[false, true, true, false, false, false, false, false, false, false] rfl rfl (any_of HT_.out (by kernel_rfl)) (fun _ _ _ h => h) (Or.inl ⟨by rfl, ?_⟩) ?_ ?_
  rotate_left
  ·intro w'
   go_simp
   with_reducible rfl
  rotate_left
  ·simp only [Act.put, List.setIfInBounds_toArray, List.set_cons_zero, List.set_cons_succ, i64_w, i32_w]
   rfl
  refine take_ (i := 0) (N := some 57) (v := ?_) (a' := ?_) #[true, true, true, false, false, false, false, false, false, false] rfl rfl (take_ofW HT_.out HW_.out (by kernel_rfl)) (fun _ _ _ h => h) (Or.inl ⟨by rfl, ?_⟩) hHeld ?_ ?_
  rotate_left
  ·rintro w' ⟨s0, s1⟩
   go_simp
   with_reducible rfl
  rotate_left
  ·simp only [Act.put, List.setIfInBounds_toArray, List.set_cons_zero, List.set_cons_succ, i64_w, i32_w]
   rfl
  refine one_ (i := 3) (N := some 60) #[true, true, true, true, false, false, false, false, false, false] rfl rfl (one_of HT_.out (by kernel_rfl)) (by decide) (fun K hK => ?_)
  refine goes_ Tryd.func49 (by kernel_rfl) rfl #[.slice Ao28 t581.length co28] (by rfl) rfl rfl (by (try simp only [List.map_toArray, List.map_cons, List.map_nil]); first | done | rfl | (simp only [List.length_drop, List.length_take]; rfl)) ?_
  with_reducible refine (skewbaldref00_Set.calls k _ _ t581 t584 _ ?side1 ?side2 A12.out).mono ?_
  (case side1 => repeat (first | exact (Kd.R_reads' HO583.out).2.2 | (with_reducible refine Kd.C_alloc ?_ _) | (with_reducible refine Kd.C_drewN ?_ _) | (with_reducible refine Kd.C_drew ?_)))
  (case side2 => exact (Kd.R_reads' HO583.out).2.1)
  rintro e w' ⟨rfl, ⟨nd, rfl⟩⟩
  refine ⟨_, rfl, ?_⟩
  refine hK.out _ _ ⟨(blk_cell BK570.out 0).trans rfl, (blk_cell BK570.out 1).trans rfl⟩ (fun hHeld => ?_)
  clear hK K
  refine norm_ (a' := ?_) ?_ ?_
  rotate_left
  ·show Act.put _ (some 60) _ = _
   simp only [Act.put, List.setIfInBounds_toArray, List.set_cons_zero, List.set_cons_succ, i64_w, i32_w]
   rfl
  refine one_ (i := 4) (N := some 61) #[true, true, true, true, true, false, false, false, false, false] rfl rfl (one_of HT_.out (by kernel_rfl)) (by decide) (fun K hK => ?_)
  refine goes_ Tryd.func46 (by kernel_rfl) rfl #[.agg #[.slice A0_0 l0_0.length c0_0, .slice A0_1 l0_1.length c0_1], .int .i64 (wrap64 ((ji6) - 1)), .int .i64 t584] (by rfl) rfl rfl (by (try simp only [List.map_toArray, List.map_cons, List.map_nil]); first | done | (simp only [hji6]; rfl) | rfl | (simp only [List.length_drop, List.length_take]; rfl)) ?_
  with_reducible refine (skewbaldlaw01_enough.calls k _ _ l0_0 _ _ l0_1 (wrap64 ((ji6) - 1)) t584 t585 t586 _ ?side1 ?side2 ?side3 ?side4 ?side5 A13.out).mono ?_
  (case side1 => repeat (first | exact (Kd.C_below HR0_0.out bl) | (with_reducible refine Kd.C_alloc ?_ _) | (with_reducible refine Kd.C_drewN ?_ _) | (with_reducible refine Kd.C_drew ?_)))
  (case side2 => exact HC0_0.out)
  (case side3 => repeat (first | exact (Kd.C_below HR0_1.out bl) | (with_reducible refine Kd.C_alloc ?_ _) | (with_reducible refine Kd.C_drewN ?_ _) | (with_reducible refine Kd.C_drew ?_)))
  (case side4 => exact HC0_1.out)
  (case side5 => exact Glob.below HGL.out bl)
  rintro e w29 ⟨rfl, hb⟩
  refine ⟨_, rfl, ?_⟩
  have n0_ := Aside0.mk (Kd.V_below (by (with_reducible repeat (first | apply Kd.V_alloc | apply Kd.V_drewN | apply Kd.V_drew)); exact HO573.out) hb)
  have n1_ := Aside0.mk (Kd.R_below (by (with_reducible repeat (first | apply Kd.R_alloc | apply Kd.R_drewN | apply Kd.R_drew)); exact HO583.out) hb)
  have n2_ := Aside0.mk (blk_below (g := gb570) (o := .cells #[.slice A0_0 l0_0.length c0_0, .slice A0_1 l0_1.length c0_1] 25 (0, 0)) bk hb)
  have n3_ := Aside0.mk (below_step bl hb)
  clear HO573
  clear HO583
  clear BK570
  clear HB
  have HO573 := n0_
  have HO583 := n1_
  have BK570 := n2_
  have HB := n3_
  clear n0_ n1_ n2_ n3_
  (try clear hb)
  (try clear hb2)
  (try clear hk)
  (try clear hi)
  refine hK.out _ _ ⟨(blk_cell BK570.out 0).trans rfl, (blk_cell BK570.out 1).trans rfl⟩ (fun hHeld => ?_)
  clear hK K
  refine norm_ (a' := ?_) ?_ ?_
  rotate_left
  ·show Act.put _ (some 61) _ = _
   simp only [Act.put, List.setIfInBounds_toArray, List.set_cons_zero, List.set_cons_succ, i64_w, i32_w]
   rfl
  refine pure_ (i := 5) (N := some 56) (v := ?_) (a' := ?_) #[true, true, true, true, true, true, false, false, false, false] rfl rfl (any_of HT_.out (by kernel_rfl)) (fun _ _ _ h => h) (Or.inl ⟨by rfl, ?_⟩) ?_ ?_
  rotate_left
  ·intro w'
   go_simp
   with_reducible rfl
  rotate_left
  ·simp only [Act.put, List.setIfInBounds_toArray, List.set_cons_zero, List.set_cons_succ, i64_w, i32_w]
   rfl
  refine pure_ (i := 6) (N := some 62) (v := ?_) (a' := ?_) #[true, true, true, true, true, true, true, false, false, false] rfl rfl (any_of HT_.out (by kernel_rfl)) (fun _ _ _ h => h) (Or.inl ⟨by rfl, ?_⟩) ?_ ?_
  rotate_left
  ·intro w'
   go_simp
   with_reducible rfl
  rotate_left
  ·simp only [Act.put, List.setIfInBounds_toArray, List.set_cons_zero, List.set_cons_succ, i64_w, i32_w]
   rfl
  refine pure_ (i := 7) (N := some 63) (v := ?_) (a' := ?_) #[true, true, true, true, true, true, true, true, false, false] rfl rfl (any_of HT_.out (by kernel_rfl)) (fun _ _ _ h => h) (Or.inl ⟨by rfl, ?_⟩) ?_ ?_
  rotate_left
  ·intro w'
   go_simp
   with_reducible rfl
  rotate_left
  ·simp only [Act.put, List.setIfInBounds_toArray, List.set_cons_zero, List.set_cons_succ, i64_w, i32_w]
   rfl
  refine pure_ (i := 8) (N := some 11) (v := ?_) (a' := ?_) #[true, true, true, true, true, true, true, true, true, false] rfl rfl (any_of HT_.out (by kernel_rfl)) (fun _ _ _ h => h) (Or.inl ⟨by rfl, ?_⟩) ?_ ?_
  rotate_left
  ·intro w'
   go_simp
   with_reducible rfl
  rotate_left
  ·simp only [Act.put, List.setIfInBounds_toArray, List.set_cons_zero, List.set_cons_succ, i64_w, i32_w]
   rfl
  refine pure_ (i := 9) (N := some 12) (v := ?_) (a' := ?_) #[true, true, true, true, true, true, true, true, true, true] rfl rfl (any_of HT_.out (by kernel_rfl)) (fun _ _ _ h => h) (Or.inl ⟨by rfl, ?_⟩) ?_ ?_
  rotate_left
  ·intro w'
   go_simp
   with_reducible rfl
  rotate_left
  ·simp only [Act.put, List.setIfInBounds_toArray, List.set_cons_zero, List.set_cons_succ, i64_w, i32_w]
   rfl
  refine done_ (done_of HT_.out (by kernel_rfl)) ?_
  have hcz30_0 : w29.cell? ⟨gb570, 0, none⟩ = some (.slice A0_0 l0_0.length c0_0) := (blk_cell BK570.out 0).trans rfl
  have hcz30_1 : w29.cell? ⟨gb570, 1, none⟩ = some (.slice A0_1 l0_1.length c0_1) := (blk_cell BK570.out 1).trans rfl
  have hfz30_0 := blk_frozen BK570.out 0
  have hfz30_1 := blk_frozen BK570.out 1
  go_upto_region 9 with (first | ((with_reducible refine gate_callee (f := 28) rfl ?_); refine goesL_ (some 66) rfl rfl Tryd.func28 (by kernel_rfl) rfl #[.agg #[.slice A0_0 l0_0.length c0_0, .slice A0_1 l0_1.length c0_1]] rfl (by (try simp only [List.map_toArray, List.map_cons, List.map_nil]); first | done | rfl | (simp only [List.length_drop, List.length_take]; rfl)) ?_; (with_reducible refine (plank_Fewest.calls _ _ l0_0 _ _ l0_1 t587 t590 _ ?side1 ?side2 ?side3 ?side4 ?side5 A14.out).mono ?_); (case side1 => exact cl); (case side2 => exact HC0_0.out); (case side3 => exact cl); (case side4 => exact HC0_1.out); (case side5 => exact Glob.below HGL.out bl); rintro e w31 ⟨v588, rfl, ho0, hb⟩; refine ⟨_, rfl, ?_⟩; have n0_ := Aside0.mk (Kd.V_below (by (with_reducible repeat (first | apply Kd.V_alloc | apply Kd.V_drewN | apply Kd.V_drew)); exact HO573.out) hb); have n1_ := Aside0.mk (Kd.R_below (by (with_reducible repeat (first | apply Kd.R_alloc | apply Kd.R_drewN | apply Kd.R_drew)); exact HO583.out) hb); have n2_ := Aside0.mk (Kd.V_lower (Kd.V_mono (ok' := fun k_ => some k_ ≠ (.slice Ao28 t581.length co28 : Value).ownBlock ∧ k_ ≠ gb570) ho0 (fun k_ hk_ => ⟨(Kd.fresh' (Kd.R_lt (by (with_reducible repeat (first | apply Kd.R_alloc | apply Kd.R_drewN | apply Kd.R_drew)); exact HO583.out)) k_ hk_), (Kd.freshB (g := gb570) (o := .cells #[.slice A0_0 l0_0.length c0_0, .slice A0_1 l0_1.length c0_1] 25 (0, 0)) bk k_ hk_)⟩)) (below_size bl)); have n3_ := Aside0.mk (blk_below (g := gb570) (o := .cells #[.slice A0_0 l0_0.length c0_0, .slice A0_1 l0_1.length c0_1] 25 (0, 0)) bk hb); have n4_ := Aside0.mk (below_step bl hb); clear HO573; clear HO583; clear BK570; clear HB; have HO573 := n0_; have HO583 := n1_; have HO589 := n2_; have BK570 := n3_; have HB := n4_; clear n0_ n1_ n2_ n3_ n4_; (try clear hb); (try clear hb2); (try clear hk); (try clear hi); (try clear ho0)))
  (try simp only [Act.put, List.setIfInBounds_toArray, List.set_cons_zero, List.set_cons_succ])
  go_cut [101] (fun v101 wc => ∃ (kq : Nat) (x101_14 : Bool), v101 = .bool x101_14 ∧ Aside0 (skewbaldlaw01_PlankMost.j0 kq t571 t581 t585 x101_14 = some true) ∧ Aside0 (kq ≤ k) ∧ Aside0 (Kd.V (Kd.int .i64) 3 wc w.heap.size (fun k_ => some k_ ≠ ((.slice Ao28 t581.length co28) : Value).ownBlock ∧ k_ ≠ gb570) (.slice Ao23 t571.length co23) t571) ∧ Aside0 (Kd.R (Kd.int .i64) 3 wc w.heap.size (fun _ => True) (.slice Ao28 t581.length co28) t581) ∧ Aside0 (wc.heap[gb570]? = some (.cells #[(.slice A0_0 l0_0.length c0_0), (.slice A0_1 l0_1.length c0_1)] 25 (0, 0))) ∧ Aside0 (Below w.heap.size w wc))
  case first =>
   have H := HC15.out
   clear HC15
   by_cases c32 : t574 = 0
   ·rw [if_pos c32] at H
    have c32b0 : (t574 == 0) = true := beq_iff_eq.mpr c32
    have c32b1 : (t574 != 0) = false := bne_eq_false_iff_eq.mpr c32
    clear c32
    (first | rw [c32b0] | (simp only [i64_w, i32_w]; rw [c32b0]) | skip)
    by_cases c33 : t579 = true
    ·subst c33
     have H1 : (if t586 = true then (if t578 = true then ((skewbaldref00_Grows.f k t571 (l0_1.length : Int)).bind fun t591 => (if t591 = true then (skewbaldlaw01_PlankMost.j0 k t571 t581 t585 (((t571.length : Int) == (l0_1.length : Int)) != (t590 == 0))) else (skewbaldlaw01_PlankMost.j0 k t571 t581 t585 true))) else (skewbaldlaw01_PlankMost.j0 k t571 t581 t585 true)) else (skewbaldlaw01_PlankMost.j0 k t571 t581 t585 true)) = some true := by rw [if_pos rfl] at H; exact H
     clear H
     have H := H1
     clear H1
     by_cases c34 : t586 = true
     ·subst c34
      have H1 : (if t578 = true then ((skewbaldref00_Grows.f k t571 (l0_1.length : Int)).bind fun t591 => (if t591 = true then (skewbaldlaw01_PlankMost.j0 k t571 t581 t585 (((t571.length : Int) == (l0_1.length : Int)) != (t590 == 0))) else (skewbaldlaw01_PlankMost.j0 k t571 t581 t585 true))) else (skewbaldlaw01_PlankMost.j0 k t571 t581 t585 true)) = some true := by rw [if_pos rfl] at H; exact H
      clear H
      have H := H1
      clear H1
      by_cases c35 : t578 = true
      ·subst c35
       have H1 : ((skewbaldref00_Grows.f k t571 (l0_1.length : Int)).bind fun t591 => (if t591 = true then (skewbaldlaw01_PlankMost.j0 k t571 t581 t585 (((t571.length : Int) == (l0_1.length : Int)) != (t590 == 0))) else (skewbaldlaw01_PlankMost.j0 k t571 t581 t585 true))) = some true := by rw [if_pos rfl] at H; exact H
       clear H
       have H := H1
       clear H1
       replace H := Option.bind_eq_some_iff.mp H
       obtain ⟨t591, A360, H⟩ := H
       replace H : (if t591 = true then (skewbaldlaw01_PlankMost.j0 k t571 t581 t585 (((t571.length : Int) == (l0_1.length : Int)) != (t590 == 0))) else (skewbaldlaw01_PlankMost.j0 k t571 t581 t585 true)) = some true := H
       have A36 := Aside0.mk A360
       clear A360
       by_cases c37 : t591 = true
       ·subst c37
        have H1 : (skewbaldlaw01_PlankMost.j0 k t571 t581 t585 (((t571.length : Int) == (l0_1.length : Int)) != (t590 == 0))) = some true := by rw [if_pos rfl] at H; exact H
        clear H
        have H := H1
        clear H1
        have H' := Aside0.mk H
        clear H
        have hcz38_0 : w31.cell? ⟨gb570, 0, none⟩ = some (.slice A0_0 l0_0.length c0_0) := (blk_cell BK570.out 0).trans rfl
        have hcz38_1 : w31.cell? ⟨gb570, 1, none⟩ = some (.slice A0_1 l0_1.length c0_1) := (blk_cell BK570.out 1).trans rfl
        have hfz38_0 := blk_frozen BK570.out 0
        have hfz38_1 := blk_frozen BK570.out 1
        go_wp2_with (first | (go_at_call 39; (with_reducible refine (skewbaldref00_Grows.calls k _ _ t571 (l0_1.length : Int) true _ ?side1 ?side2 A36.out).mono ?_); (case side1 => repeat (first | exact (Kd.V_reads' HO573.out).2.2 | (with_reducible refine Kd.C_alloc ?_ _) | (with_reducible refine Kd.C_drewN ?_ _) | (with_reducible refine Kd.C_drew ?_))); (case side2 => exact (Kd.V_reads' HO573.out).2.1); rintro e w' ⟨rfl, ⟨nd, rfl⟩⟩))
        go_meet
        case rel => exact ⟨_, ((((t571.length : Int) == (l0_1.length : Int)) != (t590 == 0))), (by first | rfl | (simp; done) | (simp [*]; done)), H', ⟨by first | omega | exact Nat.le_refl _⟩, ⟨by (with_reducible repeat (first | apply Kd.V_alloc | apply Kd.V_drewN | apply Kd.V_drew)); exact Kd.V_mono HO573.out (fun _ hk => ⟨hk.2, hk.1⟩)⟩, ⟨by (with_reducible repeat (first | apply Kd.R_alloc | apply Kd.R_drewN | apply Kd.R_drew)); exact HO583.out⟩, ⟨bk⟩, ⟨bl⟩⟩
       ·replace c37 := Bool.eq_false_iff.mpr c37
        subst c37
        have H1 : (skewbaldlaw01_PlankMost.j0 k t571 t581 t585 true) = some true := by rw [if_neg (show ¬ (false = true) by decide)] at H; exact H
        clear H
        have H := H1
        clear H1
        exact absurd H (by rcases k with _ | k <;> (first | (simp [skewbaldlaw01_PlankMost.j0]; done) | (rcases k with _ | k <;> simp [skewbaldlaw01_PlankMost.j0])))
      ·replace c35 := Bool.eq_false_iff.mpr c35
       subst c35
       have H1 : (skewbaldlaw01_PlankMost.j0 k t571 t581 t585 true) = some true := by rw [if_neg (show ¬ (false = true) by decide)] at H; exact H
       clear H
       have H := H1
       clear H1
       exact absurd H (by rcases k with _ | k <;> (first | (simp [skewbaldlaw01_PlankMost.j0]; done) | (rcases k with _ | k <;> simp [skewbaldlaw01_PlankMost.j0])))
     ·replace c34 := Bool.eq_false_iff.mpr c34
      subst c34
      have H1 : (skewbaldlaw01_PlankMost.j0 k t571 t581 t585 true) = some true := by rw [if_neg (show ¬ (false = true) by decide)] at H; exact H
      clear H
      have H := H1
      clear H1
      exact absurd H (by rcases k with _ | k <;> (first | (simp [skewbaldlaw01_PlankMost.j0]; done) | (rcases k with _ | k <;> simp [skewbaldlaw01_PlankMost.j0])))
    ·replace c33 := Bool.eq_false_iff.mpr c33
     subst c33
     have H1 : (skewbaldlaw01_PlankMost.j0 k t571 t581 t585 true) = some true := by rw [if_neg (show ¬ (false = true) by decide)] at H; exact H
     clear H
     have H := H1
     clear H1
     exact absurd H (by rcases k with _ | k <;> (first | (simp [skewbaldlaw01_PlankMost.j0]; done) | (rcases k with _ | k <;> simp [skewbaldlaw01_PlankMost.j0])))
   ·rw [if_neg c32] at H
    have c32b0 : (t574 == 0) = false := beq_eq_false_iff_ne.mpr c32
    have c32b1 : (t574 != 0) = true := bne_iff_ne.mpr c32
    (first | rw [c32b0] | (simp only [i64_w, i32_w]; rw [c32b0]) | skip)
    exact absurd H (by rcases k with _ | k <;> (first | (simp [skewbaldlaw01_PlankMost.j0]; done) | (rcases k with _ | k <;> simp [skewbaldlaw01_PlankMost.j0])))
  case rest =>
   clear HC15
   try clear c1
   try clear c2
   try clear p2
   try clear c3
   try clear c4
   try clear c5
   try clear p6
   try clear c10
   try clear c26
   try clear c28
   try clear c32
   try clear c32b0
   try clear c32b1
   try clear c33
   try clear c34
   try clear c35
   try clear c37
   try clear hcz17_0
   try clear hcz17_1
   try clear hcz19_0
   try clear hcz19_1
   try clear hcz21_0
   try clear hcz21_1
   try clear hcz30_0
   try clear hcz30_1
   try clear hcz38_0
   try clear hcz38_1
   try clear hfz17_0
   try clear hfz17_1
   try clear hfz19_0
   try clear hfz19_1
   try clear hfz21_0
   try clear hfz21_1
   try clear hfz30_0
   try clear hfz30_1
   try clear hfz38_0
   try clear hfz38_1
   obtain ⟨kq, x101_14, rfl, HA, HJ14, HO_5, HO_10, BK570, HB⟩ := hcut
   cases kq with
   | zero => exact absurd HA.out (by simp [skewbaldlaw01_PlankMost.j0])
   | succ kj14 =>
    have H := HA.out
    clear HA
    simp only [skewbaldlaw01_PlankMost.j0] at H
    by_cases c39 : x101_14 = true
    ·subst c39
     have H1 : (some false) = some true := by rw [if_pos rfl] at H; exact H
     clear H
     have H := H1
     clear H1
     exact absurd H (by simp)
    ·replace c39 := Bool.eq_false_iff.mpr c39
     subst c39
     have H1 : (if t585 = true then (if (t581.length : Int) < (t571.length : Int) then ((skewbaldlaw01_sawn.f).bind fun t592 => (some t592)) else (if (t581.length : Int) = (t571.length : Int) then ((skewbaldref00_Less.f kj14 t581 t571).bind fun t593 => (if t593 = true then (some false) else ((skewbaldlaw01_sawn.f).bind fun t594 => (some t594)))) else (some false))) else ((skewbaldlaw01_sawn.f).bind fun t595 => (some t595))) = some true := by rw [if_neg (show ¬ (false = true) by decide)] at H; exact H
     clear H
     have H := H1
     clear H1
     by_cases c40 : t585 = true
     ·subst c40
      have H1 : (if (t581.length : Int) < (t571.length : Int) then ((skewbaldlaw01_sawn.f).bind fun t592 => (some t592)) else (if (t581.length : Int) = (t571.length : Int) then ((skewbaldref00_Less.f kj14 t581 t571).bind fun t593 => (if t593 = true then (some false) else ((skewbaldlaw01_sawn.f).bind fun t594 => (some t594)))) else (some false))) = some true := by rw [if_pos rfl] at H; exact H
      clear H
      have H := H1
      clear H1
      by_cases c41 : (t581.length : Int) < (t571.length : Int)
      ·rw [if_pos c41] at H
       have c41b0 : decide ((t581.length : Int) < (t571.length : Int)) = true := decide_eq_true c41
       have c41b1 : decide (t581.length < t571.length) = true := decide_eq_true (Int.ofNat_lt.mp c41)
       clear c41
       replace H := Option.bind_eq_some_iff.mp H
       obtain ⟨t592, A420, H⟩ := H
       replace H : (some t592) = some true := H
       have A42 := Aside0.mk A420
       clear A420
       have HE_ := Aside0.mk (Option.some.inj H)
       clear H
       go_wp2_with (first | (go_at_call 23; (with_reducible refine (skewbaldlaw01_sawn.calls  t592 _ ?side1 A42.out).mono ?_); (case side1 => exact Glob.below HGL.out bl); rintro e w43 ⟨rfl, hb⟩; have n0_ := Aside0.mk (Kd.V_below (by (with_reducible repeat (first | apply Kd.V_alloc | apply Kd.V_drewN | apply Kd.V_drew)); exact HO_5.out) hb); have n1_ := Aside0.mk (Kd.R_below (by (with_reducible repeat (first | apply Kd.R_alloc | apply Kd.R_drewN | apply Kd.R_drew)); exact HO_10.out) hb); have n2_ := Aside0.mk (blk_below (g := gb570) (o := .cells #[.slice A0_0 l0_0.length c0_0, .slice A0_1 l0_1.length c0_1] 25 (0, 0)) bk hb); have n3_ := Aside0.mk (below_step bl hb); clear HO_5; clear HO_10; clear BK570; clear HB; have HO_5 := n0_; have HO_10 := n1_; have BK570 := n2_; have HB := n3_; clear n0_ n1_ n2_ n3_; (try clear hb); (try clear hb2); (try clear hk); (try clear hi)))
       go_ret
       exact ⟨by first | rfl | (rw [HE_.out]; done) | (simp [HE_.out]; done) | (simp [errW_none, errW_some] <;> rfl) | (simp only [← hji6, ← hji9]; first | rfl | (simp [errW_none, errW_some] <;> rfl)) | (simp [*, errW_none, errW_some] <;> rfl), bl⟩
      ·rw [if_neg c41] at H
       have c41b0 : decide ((t581.length : Int) < (t571.length : Int)) = false := decide_eq_false c41
       have c41b1 : decide (t581.length < t571.length) = false := decide_eq_false (fun h => c41 (Int.ofNat_lt.mpr h))
       clear c41
       by_cases c44 : (t581.length : Int) = (t571.length : Int)
       ·rw [if_pos c44] at H
        have c44b0 : ((t581.length : Int) == (t571.length : Int)) = true := beq_iff_eq.mpr c44
        have c44b1 : ((t581.length : Int) != (t571.length : Int)) = false := bne_eq_false_iff_eq.mpr c44
        have c44b2 : (t581.length == t571.length) = true := by first | simpa using c44 | (simp at c44 ⊢; omega)
        clear c44
        replace H := Option.bind_eq_some_iff.mp H
        obtain ⟨t593, A450, H⟩ := H
        replace H : (if t593 = true then (some false) else ((skewbaldlaw01_sawn.f).bind fun t594 => (some t594))) = some true := H
        have A45 := Aside0.mk A450
        clear A450
        by_cases c46 : t593 = true
        ·subst c46
         have H1 : (some false) = some true := by rw [if_pos rfl] at H; exact H
         clear H
         have H := H1
         clear H1
         exact absurd H (by simp)
        ·replace c46 := Bool.eq_false_iff.mpr c46
         subst c46
         have H1 : ((skewbaldlaw01_sawn.f).bind fun t594 => (some t594)) = some true := by rw [if_neg (show ¬ (false = true) by decide)] at H; exact H
         clear H
         have H := H1
         clear H1
         replace H := Option.bind_eq_some_iff.mp H
         obtain ⟨t594, A470, H⟩ := H
         replace H : (some t594) = some true := H
         have A47 := Aside0.mk A470
         clear A470
         have HE_ := Aside0.mk (Option.some.inj H)
         clear H
         go_wp2_with (first | (go_at_call 44; (with_reducible refine (skewbaldref00_Less.calls kj14 _ _ t581 _ _ t571 false _ ?side1 ?side2 ?side3 ?side4 A45.out).mono ?_); (case side1 => repeat (first | exact (Kd.R_reads' HO_10.out).2.2 | (with_reducible refine Kd.C_alloc ?_ _) | (with_reducible refine Kd.C_drewN ?_ _) | (with_reducible refine Kd.C_drew ?_))); (case side2 => exact (Kd.R_reads' HO_10.out).2.1); (case side3 => repeat (first | exact (Kd.V_reads' HO_5.out).2.2 | (with_reducible refine Kd.C_alloc ?_ _) | (with_reducible refine Kd.C_drewN ?_ _) | (with_reducible refine Kd.C_drew ?_))); (case side4 => exact (Kd.V_reads' HO_5.out).2.1); rintro e w' ⟨rfl, ⟨nd, rfl⟩⟩) | (go_at_call 23; (with_reducible refine (skewbaldlaw01_sawn.calls  t594 _ ?side1 A47.out).mono ?_); (case side1 => exact Glob.below HGL.out bl); rintro e w48 ⟨rfl, hb⟩; have n0_ := Aside0.mk (Kd.V_below (by (with_reducible repeat (first | apply Kd.V_alloc | apply Kd.V_drewN | apply Kd.V_drew)); exact HO_5.out) hb); have n1_ := Aside0.mk (Kd.R_below (by (with_reducible repeat (first | apply Kd.R_alloc | apply Kd.R_drewN | apply Kd.R_drew)); exact HO_10.out) hb); have n2_ := Aside0.mk (blk_below (g := gb570) (o := .cells #[.slice A0_0 l0_0.length c0_0, .slice A0_1 l0_1.length c0_1] 25 (0, 0)) bk hb); have n3_ := Aside0.mk (below_step bl hb); clear HO_5; clear HO_10; clear BK570; clear HB; have HO_5 := n0_; have HO_10 := n1_; have BK570 := n2_; have HB := n3_; clear n0_ n1_ n2_ n3_; (try clear hb); (try clear hb2); (try clear hk); (try clear hi)))
         go_ret
         exact ⟨by first | rfl | (rw [HE_.out]; done) | (simp [HE_.out]; done) | (simp [errW_none, errW_some] <;> rfl) | (simp only [← hji6, ← hji9]; first | rfl | (simp [errW_none, errW_some] <;> rfl)) | (simp [*, errW_none, errW_some] <;> rfl), bl⟩
       ·rw [if_neg c44] at H
        have c44b0 : ((t581.length : Int) == (t571.length : Int)) = false := beq_eq_false_iff_ne.mpr c44
        have c44b1 : ((t581.length : Int) != (t571.length : Int)) = true := bne_iff_ne.mpr c44
        have c44b2 : (t581.length == t571.length) = false := by first | simpa using c44 | (simp at c44 ⊢; omega)
        exact absurd H (by simp)
     ·replace c40 := Bool.eq_false_iff.mpr c40
      subst c40
      have H1 : ((skewbaldlaw01_sawn.f).bind fun t595 => (some t595)) = some true := by rw [if_neg (show ¬ (false = true) by decide)] at H; exact H
      clear H
      have H := H1
      clear H1
      replace H := Option.bind_eq_some_iff.mp H
      obtain ⟨t595, A490, H⟩ := H
      replace H : (some t595) = some true := H
      have A49 := Aside0.mk A490
      clear A490
      have HE_ := Aside0.mk (Option.some.inj H)
      clear H
      go_wp2_with (first | (go_at_call 23; (with_reducible refine (skewbaldlaw01_sawn.calls  t595 _ ?side1 A49.out).mono ?_); (case side1 => exact Glob.below HGL.out bl); rintro e w50 ⟨rfl, hb⟩; have n0_ := Aside0.mk (Kd.V_below (by (with_reducible repeat (first | apply Kd.V_alloc | apply Kd.V_drewN | apply Kd.V_drew)); exact HO_5.out) hb); have n1_ := Aside0.mk (Kd.R_below (by (with_reducible repeat (first | apply Kd.R_alloc | apply Kd.R_drewN | apply Kd.R_drew)); exact HO_10.out) hb); have n2_ := Aside0.mk (blk_below (g := gb570) (o := .cells #[.slice A0_0 l0_0.length c0_0, .slice A0_1 l0_1.length c0_1] 25 (0, 0)) bk hb); have n3_ := Aside0.mk (below_step bl hb); clear HO_5; clear HO_10; clear BK570; clear HB; have HO_5 := n0_; have HO_10 := n1_; have BK570 := n2_; have HB := n3_; clear n0_ n1_ n2_ n3_; (try clear hb); (try clear hb2); (try clear hk); (try clear hi)))
      go_ret
      exact ⟨by first | rfl | (rw [HE_.out]; done) | (simp [HE_.out]; done) | (simp [errW_none, errW_some] <;> rfl) | (simp only [← hji6, ← hji9]; first | rfl | (simp [errW_none, errW_some] <;> rfl)) | (simp [*, errW_none, errW_some] <;> rfl), bl⟩
 ·replace c5 := Bool.eq_false_iff.mpr c5
  subst c5
  have H1 : (if t574 = 10 then (if (t571.length : Int) = 0 then ((skewbaldlaw01_sawn.f).bind fun t576 => (some t576)) else (some false)) else (some false)) = some true := by rw [if_neg (show ¬ (false = true) by decide)] at H; exact H
  clear H
  have H := H1
  clear H1
  by_cases c51 : t574 = 10
  ·rw [if_pos c51] at H
   have c51b0 : (t574 == 10) = true := beq_iff_eq.mpr c51
   have c51b1 : (t574 != 10) = false := bne_eq_false_iff_eq.mpr c51
   clear c51
   by_cases c52 : (t571.length : Int) = 0
   ·rw [if_pos c52] at H
    have c52b0 : ((t571.length : Int) == 0) = true := beq_iff_eq.mpr c52
    have c52b1 : ((t571.length : Int) != 0) = false := bne_eq_false_iff_eq.mpr c52
    clear c52
    replace H := Option.bind_eq_some_iff.mp H
    obtain ⟨t576, A530, H⟩ := H
    replace H : (some t576) = some true := H
    have A53 := Aside0.mk A530
    clear A530
    have HE_ := Aside0.mk (Option.some.inj H)
    clear H
    go_enter Tryd.func10, Tryd.ntmps10
    go_wp2_with (first | ((with_reducible refine gate_dst (N := 2) rfl ?_); (try (refine gate_guard (by rfl) ?_; dsimp only)); refine box_event ?hg (N := 2) ?hd (cs := #[.slice A0_0 l0_0.length c0_0, .slice A0_1 l0_1.length c0_1]) (t := 25) ?hr ?_; (case hd => rfl); (case hg => rfl); (case hr => first | (go_simp; done) | (go_simp; rfl)); intro gb570 hg w54 hbox hb; have n0_ := Aside0.mk (below_step bl hb); have n1_ := Aside0.mk (hbox); have n2_ := Aside0.mk ((by rw [hg]; exact (below_size bl) : w.heap.size ≤ gb570)); have n3_ := Aside0.mk ((by rw [hg]; exact (below_size bl) : w.heap.size ≤ gb570)); clear HB; have HB := n0_; have BK570 := n1_; have GW570 := n2_; have GE570 := n3_; clear n0_ n1_ n2_ n3_; clear hb hbox hg; have hcz55_0 : w54.cell? ⟨gb570, 0, none⟩ = some (.slice A0_0 l0_0.length c0_0) := (blk_cell BK570.out 0).trans rfl; have hcz55_1 : w54.cell? ⟨gb570, 1, none⟩ = some (.slice A0_1 l0_1.length c0_1) := (blk_cell BK570.out 1).trans rfl; have hfz55_0 := blk_frozen BK570.out 0; have hfz55_1 := blk_frozen BK570.out 1) | ((with_reducible refine gate_callee (f := 26) rfl ?_); refine goesL_ (some 17) rfl rfl Tryd.func26 (by kernel_rfl) rfl #[.agg #[.slice A0_0 l0_0.length c0_0, .slice A0_1 l0_1.length c0_1]] rfl (by (try simp only [List.map_toArray, List.map_cons, List.map_nil]); first | done | rfl | (simp only [List.length_drop, List.length_take]; rfl)) ?_; (with_reducible refine (plank_Most.calls _ _ l0_0 _ _ l0_1 t571 t574 _ ?side1 ?side2 ?side3 ?side4 ?side5 A3.out).mono ?_); (case side1 => exact cl); (case side2 => exact HC0_0.out); (case side3 => exact cl); (case side4 => exact HC0_1.out); (case side5 => exact Glob.below HGL.out bl); rintro e w56 ⟨v572, rfl, ho0, hb⟩; refine ⟨_, rfl, ?_⟩; have n0_ := Aside0.mk (Kd.V_lower (Kd.V_mono (ok' := fun k_ => k_ ≠ gb570) ho0 (fun k_ hk_ => (Kd.freshB (g := gb570) (o := .cells #[.slice A0_0 l0_0.length c0_0, .slice A0_1 l0_1.length c0_1] 25 (0, 0)) bk k_ hk_))) (below_size bl)); have n1_ := Aside0.mk (blk_below (g := gb570) (o := .cells #[.slice A0_0 l0_0.length c0_0, .slice A0_1 l0_1.length c0_1] 25 (0, 0)) bk hb); have n2_ := Aside0.mk (below_step bl hb); clear BK570; clear HB; have HO573 := n0_; have BK570 := n1_; have HB := n2_; clear n0_ n1_ n2_; (try clear hb); (try clear hb2); (try clear hk); (try clear hi); (try clear ho0); have hcz57_0 : w56.cell? ⟨gb570, 0, none⟩ = some (.slice A0_0 l0_0.length c0_0) := (blk_cell BK570.out 0).trans rfl; have hcz57_1 : w56.cell? ⟨gb570, 1, none⟩ = some (.slice A0_1 l0_1.length c0_1) := (blk_cell BK570.out 1).trans rfl; have hfz57_0 := blk_frozen BK570.out 0; have hfz57_1 := blk_frozen BK570.out 1) | ((with_reducible refine gate_callee (f := 34) rfl ?_); refine goesL_ (some 21) rfl rfl Tryd.func34 (by kernel_rfl) rfl #[.agg #[.slice A0_0 l0_0.length c0_0, .slice A0_1 l0_1.length c0_1]] rfl (by (try simp only [List.map_toArray, List.map_cons, List.map_nil]); first | done | rfl | (simp only [List.length_drop, List.length_take]; rfl)) ?_; (with_reducible refine (skewbaldlaw01_sound.calls k _ _ l0_0 _ _ l0_1 false _ ?side1 ?side2 ?side3 ?side4 A4.out).mono ?_); (case side1 => exact cl); (case side2 => exact HC0_0.out); (case side3 => exact cl); (case side4 => exact HC0_1.out); rintro e w58 ⟨rfl, hb⟩; refine ⟨_, rfl, ?_⟩; have n0_ := Aside0.mk (Kd.V_below (by (with_reducible repeat (first | apply Kd.V_alloc | apply Kd.V_drewN | apply Kd.V_drew)); exact HO573.out) hb); have n1_ := Aside0.mk (blk_below (g := gb570) (o := .cells #[.slice A0_0 l0_0.length c0_0, .slice A0_1 l0_1.length c0_1] 25 (0, 0)) bk hb); have n2_ := Aside0.mk (below_step bl hb); clear HO573; clear BK570; clear HB; have HO573 := n0_; have BK570 := n1_; have HB := n2_; clear n0_ n1_ n2_; (try clear hb); (try clear hb2); (try clear hk); (try clear hi); obtain ⟨Ao59, co59, eo59⟩ := Kd.V_slice HO573.out; subst eo59) | (go_at_call 23; (with_reducible refine (skewbaldlaw01_sawn.calls  t576 _ ?side1 A53.out).mono ?_); (case side1 => exact Glob.below HGL.out bl); rintro e w60 ⟨rfl, hb⟩; have n0_ := Aside0.mk (Kd.V_below (by (with_reducible repeat (first | apply Kd.V_alloc | apply Kd.V_drewN | apply Kd.V_drew)); exact HO573.out) hb); have n1_ := Aside0.mk (blk_below (g := gb570) (o := .cells #[.slice A0_0 l0_0.length c0_0, .slice A0_1 l0_1.length c0_1] 25 (0, 0)) bk hb); have n2_ := Aside0.mk (below_step bl hb); clear HO573; clear BK570; clear HB; have HO573 := n0_; have BK570 := n1_; have HB := n2_; clear n0_ n1_ n2_; (try clear hb); (try clear hb2); (try clear hk); (try clear hi)))
    go_ret
    exact ⟨by first | rfl | (rw [HE_.out]; done) | (simp [HE_.out]; done) | (simp [errW_none, errW_some] <;> rfl) | (simp [*, errW_none, errW_some] <;> rfl), bl⟩
   ·rw [if_neg c52] at H
    have c52b0 : ((t571.length : Int) == 0) = false := beq_eq_false_iff_ne.mpr c52
    have c52b1 : ((t571.length : Int) != 0) = true := bne_iff_ne.mpr c52
    have c52b2 : ¬ (t571 = []) := fun h_ => c52 (by rw [h_]; rfl)
    exact absurd H (by simp)
  ·rw [if_neg c51] at H
   have c51b0 : (t574 == 10) = false := beq_eq_false_iff_ne.mpr c51
   have c51b1 : (t574 != 10) = true := bne_iff_ne.mpr c51
   exact absurd H (by simp)
end Go.Proofs.YtekjlpldooihhaaDoor.PT
namespace Go.Proofs.YtekjlpldooihhaaDoor.PR
open Go.RowKit Go.Proofs.YtekjlpldooihhaaDoorW.PrintWords Go.Proofs.YtekjlpldooihhaaDoorW.PrintMore Go.Proofs.YtekjlpldooihhaaDoorEv Go.Proofs.YtekjlpldooihhaaDoorP Go.Proofs.YtekjlpldooihhaaDoor.PT Go.Proofs.YtekjlpldooihhaaDoorH Go.Proofs.YtekjlpldooihhaaDoorK
open Go.Proofs.YtekjlpldooihhaaDoor.PA (S48 S50 S60 k48 k50 k60 z48 z50 z60 rd_T48 rd_T50 rd_T60 rd_L4)
set_option linter.unusedVariables false
set_option linter.unusedSimpArgs false
theorem set_ten : ∀ s, s < 32 → skewbaldref00_Set.f 10 (ints (setL s)) = some (s : Int) := by decide +kernel
theorem Set_f {s : Nat} (hs : s < 32) : Evt (fun k => skewbaldref00_Set.f k (ints (setL s))) (s : Int) := Evt.of_mono (fun k => skewbaldref00_Set.mono _ k) (set_ten s hs)
theorem full_len : ∀ n, n ≤ 5 → ∀ s, s < 2 ^ n → ((setL s).length = n ↔ s = 2 ^ n - 1) := by decide +kernel
theorem plankMost_f {P : List S48} {Q : List S50} (n : Int) : Evt (fun k => skewbaldlaw01_PlankMost.f k P Q n) true := by
  unfold skewbaldlaw01_PlankMost.f plank_Most.f plank_Fewest.f
  simp only [Option.bind_some]
  refine Evt.bind sound_f (Evt.ite (fun hv => ?_) (fun hv => ?_))
  · have hok := valid_ok hv
    have h3 := hok.p3
    have h5 := hok.q5
    have hpp := pow_pos P.length
    have hpq := pow_pos Q.length
    have h32 : 2 ^ Q.length ≤ 32 := Nat.pow_le_pow_right (by omega : 0 < 2) h5
    obtain ⟨⟨s, hs, e, hc⟩, hb⟩ := most_spec P Q
    have hc' : cutB P Q (setL (2 ^ P.length - 1)) s = true := hc
    have hm : mostP P Q = (ints (setL s), 0) := by unfold mostP; rw [hv, e]; rfl
    rw [e] at hb
    have hls := setL5 s
    have hle := setL_le Q.length h5 s hs
    rw [full_num (by omega : P.length ≤ 5), shl_pow Q.length (by omega), hm, fewest_told hv]
    obtain ⟨t, ht, er⟩ := Round_nat n (2 ^ Q.length) hpq (by omega)
    rw [er]
    simp only [Option.bind_some]
    refine Evt.bind (Set_f (by omega)) (Evt.bind (enough_f hv (by omega) hs) (Evt.bind (ListN_f h5 ht) (Evt.bind (Set_f (by omega)) (Evt.bind (enough_f hv (by omega) ht) ?_))))
    rw [hc']
    refine Evt.pos (by trivial) (Evt.pos (by trivial) (Evt.pos (by trivial) (Evt.pos (by trivial) (Evt.bind (Grows_f _ (by rw [ints_length]; omega) _) (Evt.pos (grows_set Q.length h5 s hs) (Evt.succ ?_))))))
    simp only [skewbaldlaw01_PlankMost.j0]
    have hiff : (setL s).length = Q.length ↔ cutB P Q (setL (2 ^ P.length - 1)) (2 ^ Q.length - 1) = true := by
      constructor
      · intro h
        rw [(full_len Q.length h5 s hs).1 h] at hc'
        exact hc'
      · intro h
        have hfl := (full_len Q.length h5 (2 ^ Q.length - 1) (by omega)).2 rfl
        rcases hb (2 ^ Q.length - 1) (by omega) h with h' | h'
        · rw [← h']; exact hfl
        · unfold moreL at h'
          rw [ints_length, ints_length, hfl] at h'
          simp only [Bool.or_eq_true, Bool.and_eq_true, decide_eq_true_eq, beq_iff_eq] at h'
          omega
    have hx : (((ints (setL s)).length : Int) == (Q.length : Int)) = ((if cutB P Q (setL (2 ^ P.length - 1)) (2 ^ Q.length - 1) = true then (0 : Int) else 4) == 0) := by
      rw [ints_length, Bool.eq_iff_iff, beq_iff_eq, beq_iff_eq]
      by_cases h : cutB P Q (setL (2 ^ P.length - 1)) (2 ^ Q.length - 1) = true
      · rw [if_pos h]; have := hiff.2 h; simp; omega
      · rw [if_neg h]; have : ¬ (setL s).length = Q.length := fun h' => h (hiff.1 h'); simp; omega
    refine Evt.neg (by rw [hx]; simp) (Evt.ite (fun hi => ?_) (fun _ => Evt.bind sawn_f (Evt.pure _)))
    have hmore : setL t = setL s ∨ (ints (setL t)).length < (ints (setL s)).length ∨ ((ints (setL t)).length = (ints (setL s)).length ∧ cmpL (ints (setL s)) (ints (setL t)) < 0) := by
      rcases hb t ht hi with h | h
      · exact .inl h
      · unfold moreL at h
        simp only [Bool.or_eq_true, Bool.and_eq_true, decide_eq_true_eq, beq_iff_eq] at h
        rcases h with h | h
        · exact .inr (.inl h)
        · exact .inr (.inr ⟨h.1.symm, h.2⟩)
    refine Evt.ite (fun _ => Evt.bind sawn_f (Evt.pure _)) (fun hlt => Evt.pos ?_ (Evt.bind (Less_f _ _ (by rw [ints_length]; have := setL5 t; omega) (by rw [ints_length]; omega)) (Evt.neg ?_ (Evt.bind sawn_f (Evt.pure _)))))
    · rcases hmore with h | h | h
      · rw [h]
      · omega
      · omega
    · rw [less_cmp]
      rcases hmore with h | h | h
      · rw [h, cmp_self]; simp
      · omega
      · have := cmp_neg (ints (setL s)) (ints (setL t))
        simp; omega
  · have e : mostP P Q = ([], 10) := by unfold mostP; rw [show validB P Q = false from by simpa using hv]; rfl
    rw [e]
    exact Evt.pos (by trivial) (Evt.pos (by trivial) (Evt.bind sawn_f (Evt.pure _)))
end Go.Proofs.YtekjlpldooihhaaDoor.PR
namespace Go.Proofs.YtekjlpldooihhaaDoor.PlankMostRow.Pure
open Go.RowKit Go.Proofs.YtekjlpldooihhaaDoorW.PrintWords Go.Proofs.YtekjlpldooihhaaDoorEv Go.Proofs.YtekjlpldooihhaaDoorP Go.Proofs.YtekjlpldooihhaaDoor.PT Go.Proofs.YtekjlpldooihhaaDoor.PR
open Go.Proofs.YtekjlpldooihhaaDoor.PA (S48 S50 k48 k50)
set_option linter.unusedVariables false
theorem plankMost (W : World) (P : List S48) (Q : List S50) (n : Int) {A : Option Addr} (hP : Kd.C k48 W A P.length P) (w0 : ∀ y ∈ P, wfWood y) {B : Option Addr} (hQ : Kd.C k50 W B Q.length Q) (w1 : ∀ x ∈ Q, wfShape x) (w2 : (Lit.int .i64 n).wf = true) :
    ∃ k, skewbaldlaw01_PlankMost.f k P Q n = some true :=
  (plankMost_f n).get
end Go.Proofs.YtekjlpldooihhaaDoor.PlankMostRow.Pure
