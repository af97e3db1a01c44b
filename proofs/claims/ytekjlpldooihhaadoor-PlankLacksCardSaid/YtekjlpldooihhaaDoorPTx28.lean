/- The plain laws of what references and statements share: lists, sets of small numbers. -/
import Derived.Test.YtekjlpldooihhaaDoorWTab
import Derived.Test.YtekjlpldooihhaaDoorSv
import Derived.Test.YtekjlpldooihhaaDoorPTx17
import Derived.Test.YtekjlpldooihhaaDoorPTx23
import Derived.Test.YtekjlpldooihhaaDoorHm
import Derived.Test.YtekjlpldooihhaaDoorPm
namespace Go.Proofs.YtekjlpldooihhaaDoor.PT
open Go.Proofs.YtekjlpldooihhaaDoorSh
open Go.Proofs.YtekjlpldooihhaaDoor.PA (S48 S50 S60 at_L2 at_L4 at_T48 at_T50 at_T60 errW errW_none errW_some k48 k48_mk k48_mkM k48_open k48_openM k50 k50_mk k50_mkM k50_open k50_openM k60 k60_mk k60_mkM k60_open k60_openM rd_L2 rd_L4 rd_T48 rd_T50 rd_T60 z48 z50 z60)
open Go.Proofs.YtekjlpldooihhaaDoorP Go.Proofs.YtekjlpldooihhaaDoorK
open Go.RowKit Go.Proofs.YtekjlpldooihhaaDoorW.PrintWords Go.Proofs.YtekjlpldooihhaaDoorW.PrintLast Go.Proofs.YtekjlpldooihhaaDoorW.PrintMore
attribute [local go_sem] max2_int min2_int max_two min_two max_three min_three max_four min_four   -- for this text's walks alone
set_option linter.unusedVariables false
set_option linter.unusedSimpArgs false
def skewbaldlaw01_PlankLacks.j0 : Nat → Int → Int → Int → Bool → List (S48) → List (S50) → Option (Bool)
 | 0, _, _, _, _, _, _ => none
 | k + 1, x3, x4, x5, x72, x597000, x597001 => if x72 = true then (some false) else (if x4 = 0 then (if 0 ≤ x3 then ((skewbaldlaw01_enough.f k x597000 x597001 x5 (wrap64 ((shl .i64 1 x3) - 1))).bind fun bt605 => (if 0 ≤ (wrap64 (x3 + 1)) then ((skewbaldlaw01_enough.f k x597000 x597001 x5 (wrap64 ((shl .i64 1 (wrap64 (x3 + 1))) - 1))).bind fun bt607 => (if bt605.2 = true then (if bt607.2 = true then (if bt605.1 = true then (if bt607.1 = true then (some false) else ((skewbaldlaw01_sawn.f).bind fun t609 => (some t609))) else (some false)) else (some false)) else (some false))) else (none))) else (none)) else ((skewbaldlaw01_sawn.f).bind fun t610 => (some t610)))
def skewbaldlaw01_PlankLacks.f (k : Nat) (l0_0 : List (S48)) (l0_1 : List (S50)) : Option (Bool) := (plank_Lacks.f l0_0 l0_1).bind fun bt597 => ((skewbaldlaw01_sound.f k l0_0 l0_1).bind fun t599 => (if t599 = true then ((skewbaldlaw01_enough.f k l0_0 l0_1 (wrap64 ((shl .i64 1 (l0_0.length : Int)) - 1)) (wrap64 ((shl .i64 1 (l0_1.length : Int)) - 1))).bind fun bt601 => (if bt601.2 = true then (if ((bt597.2 == 4) != bt601.1) = true then (skewbaldlaw01_PlankLacks.j0 k bt597.1 bt597.2 (wrap64 ((shl .i64 1 (l0_0.length : Int)) - 1)) true l0_0 l0_1) else (if bt597.2 = 0 then ((skewbaldref00_In.f bt597.1 0 (wrap64 ((l0_1.length : Int) - 1))).bind fun t603 => (skewbaldlaw01_PlankLacks.j0 k bt597.1 bt597.2 (wrap64 ((shl .i64 1 (l0_0.length : Int)) - 1)) (!t603) l0_0 l0_1)) else (if bt597.2 = 4 then (if bt597.1 = 0 then ((skewbaldref00_In.f bt597.1 0 (wrap64 ((l0_1.length : Int) - 1))).bind fun t604 => (skewbaldlaw01_PlankLacks.j0 k bt597.1 bt597.2 (wrap64 ((shl .i64 1 (l0_0.length : Int)) - 1)) (!t604) l0_0 l0_1)) else (skewbaldlaw01_PlankLacks.j0 k bt597.1 bt597.2 (wrap64 ((shl .i64 1 (l0_0.length : Int)) - 1)) true l0_0 l0_1)) else (skewbaldlaw01_PlankLacks.j0 k bt597.1 bt597.2 (wrap64 ((shl .i64 1 (l0_0.length : Int)) - 1)) true l0_0 l0_1)))) else (skewbaldlaw01_PlankLacks.j0 k bt597.1 bt597.2 (wrap64 ((shl .i64 1 (l0_0.length : Int)) - 1)) true l0_0 l0_1))) else (if bt597.2 = 10 then (if bt597.1 = 0 then ((skewbaldlaw01_sawn.f).bind fun t600 => (some t600)) else (some false)) else (some false))))
def skewbaldlaw01_PlankLacks.T5 : Bool × List (List Nat × List Nat) := (true, [([], []), ([], []), ([], []), ([2], [2]), ([3], [3]), ([4], [4]), ([5], [5]), ([0, 1, 6], [0, 1, 6]), ([7], [7]), ([8], [8]), ([8], [8]), ([9, 7, 0, 1, 2, 3, 4, 5, 6, 7, 8, 9], [9]), ([10, 11, 0, 1, 2, 3, 4, 5, 6, 7, 8, 9, 10, 11], [10])])
def skewbaldlaw01_PlankLacks.B5 : List Nat := [0, 0, 0, 4, 12, 28, 60, 127, 255, 511, 511, 1023, 4095]
theorem skewbaldlaw01_PlankLacks.tab5 : rtab .any (opsOf Tryd.f11 5) = skewbaldlaw01_PlankLacks.T5 := by kernel_rfl
theorem skewbaldlaw01_PlankLacks.bits5 : waitsOk skewbaldlaw01_PlankLacks.T5.2 skewbaldlaw01_PlankLacks.B5 = true := by kernel_rfl
def skewbaldlaw01_PlankLacks.T10 : Bool × List (List Nat × List Nat) := (true, [([], []), ([], []), ([], []), ([2], [2]), ([3], [3]), ([0, 1, 4], [0, 1, 4]), ([5], [5]), ([6], [6]), ([6], [6]), ([7, 5, 0, 1, 2, 3, 4, 5, 6, 7], [7]), ([8, 9, 0, 1, 2, 3, 4, 5, 6, 7, 8, 9], [8])])
def skewbaldlaw01_PlankLacks.B10 : List Nat := [0, 0, 0, 4, 12, 31, 63, 127, 127, 255, 1023]
theorem skewbaldlaw01_PlankLacks.tab10 : rtab .any (opsOf Tryd.f11 10) = skewbaldlaw01_PlankLacks.T10 := by kernel_rfl
theorem skewbaldlaw01_PlankLacks.bits10 : waitsOk skewbaldlaw01_PlankLacks.T10.2 skewbaldlaw01_PlankLacks.B10 = true := by kernel_rfl
def skewbaldlaw01_PlankLacks.T11 : Bool × List (List Nat × List Nat) := (true, [([], []), ([], []), ([], []), ([2], [2]), ([3], [3]), ([4], [4]), ([0, 1, 5], [0, 1, 5]), ([6], [6]), ([7], [7]), ([7], [7]), ([8, 6, 0, 1, 2, 3, 4, 5, 6, 7, 8], [8]), ([9, 10, 0, 1, 2, 3, 4, 5, 6, 7, 8, 9, 10], [9])])
def skewbaldlaw01_PlankLacks.B11 : List Nat := [0, 0, 0, 4, 12, 28, 63, 127, 255, 255, 511, 2047]
theorem skewbaldlaw01_PlankLacks.tab11 : rtab .any (opsOf Tryd.f11 11) = skewbaldlaw01_PlankLacks.T11 := by kernel_rfl
theorem skewbaldlaw01_PlankLacks.bits11 : waitsOk skewbaldlaw01_PlankLacks.T11.2 skewbaldlaw01_PlankLacks.B11 = true := by kernel_rfl
set_option maxHeartbeats 8000000 in
set_option maxRecDepth 100000 in
theorem skewbaldlaw01_PlankLacks.calls (k : Nat) (A0_0 : Option Addr) (c0_0 : Nat) (l0_0 : List (S48)) (A0_1 : Option Addr) (c0_1 : Nat) (l0_1 : List (S50)) (w : World) (hr0_0 : Kd.C k48 w A0_0 l0_0.length l0_0) (hc0_0 : l0_0.length ≤ c0_0) (hr0_1 : Kd.C k50 w A0_1 l0_1.length l0_1) (hc0_1 : l0_1.length ≤ c0_1) (hG : Glob w) (h : skewbaldlaw01_PlankLacks.f k l0_0 l0_1 = some true) :
  Calls Tryd.prog 11 #[.agg #[.slice A0_0 l0_0.length c0_0, .slice A0_1 l0_1.length c0_1]] w fun e w' => e = .returned (.bool true) ∧ Below w.heap.size w w' := by
 have hu25 := Tryd.underlying25
 have HR0_0 := Aside0.mk hr0_0
 have HC0_0 := Aside0.mk hc0_0
 clear hr0_0 hc0_0
 have HR0_1 := Aside0.mk hr0_1
 have HC0_1 := Aside0.mk hc0_1
 clear hr0_1 hc0_1
 have HGL := Aside0.mk hG
 clear hG
 have HB := Aside0.mk (Below.refl w.heap.size w)
 have H : ((plank_Lacks.f l0_0 l0_1).bind fun bt597 => ((skewbaldlaw01_sound.f k l0_0 l0_1).bind fun t599 => (if t599 = true then ((skewbaldlaw01_enough.f k l0_0 l0_1 (wrap64 ((shl .i64 1 (l0_0.length : Int)) - 1)) (wrap64 ((shl .i64 1 (l0_1.length : Int)) - 1))).bind fun bt601 => (if bt601.2 = true then (if ((bt597.2 == 4) != bt601.1) = true then (skewbaldlaw01_PlankLacks.j0 k bt597.1 bt597.2 (wrap64 ((shl .i64 1 (l0_0.length : Int)) - 1)) true l0_0 l0_1) else (if bt597.2 = 0 then ((skewbaldref00_In.f bt597.1 0 (wrap64 ((l0_1.length : Int) - 1))).bind fun t603 => (skewbaldlaw01_PlankLacks.j0 k bt597.1 bt597.2 (wrap64 ((shl .i64 1 (l0_0.length : Int)) - 1)) (!t603) l0_0 l0_1)) else (if bt597.2 = 4 then (if bt597.1 = 0 then ((skewbaldref00_In.f bt597.1 0 (wrap64 ((l0_1.length : Int) - 1))).bind fun t604 => (skewbaldlaw01_PlankLacks.j0 k bt597.1 bt597.2 (wrap64 ((shl .i64 1 (l0_0.length : Int)) - 1)) (!t604) l0_0 l0_1)) else (skewbaldlaw01_PlankLacks.j0 k bt597.1 bt597.2 (wrap64 ((shl .i64 1 (l0_0.length : Int)) - 1)) true l0_0 l0_1)) else (skewbaldlaw01_PlankLacks.j0 k bt597.1 bt597.2 (wrap64 ((shl .i64 1 (l0_0.length : Int)) - 1)) true l0_0 l0_1)))) else (skewbaldlaw01_PlankLacks.j0 k bt597.1 bt597.2 (wrap64 ((shl .i64 1 (l0_0.length : Int)) - 1)) true l0_0 l0_1))) else (if bt597.2 = 10 then (if bt597.1 = 0 then ((skewbaldlaw01_sawn.f).bind fun t600 => (some t600)) else (some false)) else (some false))))) = some true := h
 clear h
 replace H := Option.bind_eq_some_iff.mp H
 obtain ⟨⟨t597, t598⟩, A20, H⟩ := H
 replace H : ((skewbaldlaw01_sound.f k l0_0 l0_1).bind fun t599 => (if t599 = true then ((skewbaldlaw01_enough.f k l0_0 l0_1 (wrap64 ((shl .i64 1 (l0_0.length : Int)) - 1)) (wrap64 ((shl .i64 1 (l0_1.length : Int)) - 1))).bind fun bt601 => (if bt601.2 = true then (if ((t598 == 4) != bt601.1) = true then (skewbaldlaw01_PlankLacks.j0 k t597 t598 (wrap64 ((shl .i64 1 (l0_0.length : Int)) - 1)) true l0_0 l0_1) else (if t598 = 0 then ((skewbaldref00_In.f t597 0 (wrap64 ((l0_1.length : Int) - 1))).bind fun t603 => (skewbaldlaw01_PlankLacks.j0 k t597 t598 (wrap64 ((shl .i64 1 (l0_0.length : Int)) - 1)) (!t603) l0_0 l0_1)) else (if t598 = 4 then (if t597 = 0 then ((skewbaldref00_In.f t597 0 (wrap64 ((l0_1.length : Int) - 1))).bind fun t604 => (skewbaldlaw01_PlankLacks.j0 k t597 t598 (wrap64 ((shl .i64 1 (l0_0.length : Int)) - 1)) (!t604) l0_0 l0_1)) else (skewbaldlaw01_PlankLacks.j0 k t597 t598 (wrap64 ((shl .i64 1 (l0_0.length : Int)) - 1)) true l0_0 l0_1)) else (skewbaldlaw01_PlankLacks.j0 k t597 t598 (wrap64 ((shl .i64 1 (l0_0.length : Int)) - 1)) true l0_0 l0_1)))) else (skewbaldlaw01_PlankLacks.j0 k t597 t598 (wrap64 ((shl .i64 1 (l0_0.length : Int)) - 1)) true l0_0 l0_1))) else (if t598 = 10 then (if t597 = 0 then ((skewbaldlaw01_sawn.f).bind fun t600 => (some t600)) else (some false)) else (some false)))) = some true := H
 have A2 := Aside0.mk A20
 clear A20
 replace H := Option.bind_eq_some_iff.mp H
 obtain ⟨t599, A30, H⟩ := H
 replace H : (if t599 = true then ((skewbaldlaw01_enough.f k l0_0 l0_1 (wrap64 ((shl .i64 1 (l0_0.length : Int)) - 1)) (wrap64 ((shl .i64 1 (l0_1.length : Int)) - 1))).bind fun bt601 => (if bt601.2 = true then (if ((t598 == 4) != bt601.1) = true then (skewbaldlaw01_PlankLacks.j0 k t597 t598 (wrap64 ((shl .i64 1 (l0_0.length : Int)) - 1)) true l0_0 l0_1) else (if t598 = 0 then ((skewbaldref00_In.f t597 0 (wrap64 ((l0_1.length : Int) - 1))).bind fun t603 => (skewbaldlaw01_PlankLacks.j0 k t597 t598 (wrap64 ((shl .i64 1 (l0_0.length : Int)) - 1)) (!t603) l0_0 l0_1)) else (if t598 = 4 then (if t597 = 0 then ((skewbaldref00_In.f t597 0 (wrap64 ((l0_1.length : Int) - 1))).bind fun t604 => (skewbaldlaw01_PlankLacks.j0 k t597 t598 (wrap64 ((shl .i64 1 (l0_0.length : Int)) - 1)) (!t604) l0_0 l0_1)) else (skewbaldlaw01_PlankLacks.j0 k t597 t598 (wrap64 ((shl .i64 1 (l0_0.length : Int)) - 1)) true l0_0 l0_1)) else (skewbaldlaw01_PlankLacks.j0 k t597 t598 (wrap64 ((shl .i64 1 (l0_0.length : Int)) - 1)) true l0_0 l0_1)))) else (skewbaldlaw01_PlankLacks.j0 k t597 t598 (wrap64 ((shl .i64 1 (l0_0.length : Int)) - 1)) true l0_0 l0_1))) else (if t598 = 10 then (if t597 = 0 then ((skewbaldlaw01_sawn.f).bind fun t600 => (some t600)) else (some false)) else (some false))) = some true := H
 have A3 := Aside0.mk A30
 clear A30
 by_cases c4 : t599 = true
 ·subst c4
  have H1 : ((skewbaldlaw01_enough.f k l0_0 l0_1 (wrap64 ((shl .i64 1 (l0_0.length : Int)) - 1)) (wrap64 ((shl .i64 1 (l0_1.length : Int)) - 1))).bind fun bt601 => (if bt601.2 = true then (if ((t598 == 4) != bt601.1) = true then (skewbaldlaw01_PlankLacks.j0 k t597 t598 (wrap64 ((shl .i64 1 (l0_0.length : Int)) - 1)) true l0_0 l0_1) else (if t598 = 0 then ((skewbaldref00_In.f t597 0 (wrap64 ((l0_1.length : Int) - 1))).bind fun t603 => (skewbaldlaw01_PlankLacks.j0 k t597 t598 (wrap64 ((shl .i64 1 (l0_0.length : Int)) - 1)) (!t603) l0_0 l0_1)) else (if t598 = 4 then (if t597 = 0 then ((skewbaldref00_In.f t597 0 (wrap64 ((l0_1.length : Int) - 1))).bind fun t604 => (skewbaldlaw01_PlankLacks.j0 k t597 t598 (wrap64 ((shl .i64 1 (l0_0.length : Int)) - 1)) (!t604) l0_0 l0_1)) else (skewbaldlaw01_PlankLacks.j0 k t597 t598 (wrap64 ((shl .i64 1 (l0_0.length : Int)) - 1)) true l0_0 l0_1)) else (skewbaldlaw01_PlankLacks.j0 k t597 t598 (wrap64 ((shl .i64 1 (l0_0.length : Int)) - 1)) true l0_0 l0_1)))) else (skewbaldlaw01_PlankLacks.j0 k t597 t598 (wrap64 ((shl .i64 1 (l0_0.length : Int)) - 1)) true l0_0 l0_1))) = some true := by rw [if_pos rfl] at H; exact H
  clear H
  have H := H1
  clear H1
  obtain ⟨ji5, hji5⟩ : ∃ j_ : Int, (shl .i64 1 (l0_0.length : Int)) = j_ := ⟨_, rfl⟩
  replace H : ((skewbaldlaw01_enough.f k l0_0 l0_1 (wrap64 ((ji5) - 1)) (wrap64 ((shl .i64 1 (l0_1.length : Int)) - 1))).bind fun bt601 => (if bt601.2 = true then (if ((t598 == 4) != bt601.1) = true then (skewbaldlaw01_PlankLacks.j0 k t597 t598 (wrap64 ((ji5) - 1)) true l0_0 l0_1) else (if t598 = 0 then ((skewbaldref00_In.f t597 0 (wrap64 ((l0_1.length : Int) - 1))).bind fun t603 => (skewbaldlaw01_PlankLacks.j0 k t597 t598 (wrap64 ((ji5) - 1)) (!t603) l0_0 l0_1)) else (if t598 = 4 then (if t597 = 0 then ((skewbaldref00_In.f t597 0 (wrap64 ((l0_1.length : Int) - 1))).bind fun t604 => (skewbaldlaw01_PlankLacks.j0 k t597 t598 (wrap64 ((ji5) - 1)) (!t604) l0_0 l0_1)) else (skewbaldlaw01_PlankLacks.j0 k t597 t598 (wrap64 ((ji5) - 1)) true l0_0 l0_1)) else (skewbaldlaw01_PlankLacks.j0 k t597 t598 (wrap64 ((ji5) - 1)) true l0_0 l0_1)))) else (skewbaldlaw01_PlankLacks.j0 k t597 t598 (wrap64 ((ji5) - 1)) true l0_0 l0_1))) = some true := by first | (rw [hji5] at H; exact H) | (simp only [hji5] at H ⊢; exact H)
  (try rw [hji5] at A2)
  (try rw [hji5] at A3)
  have hji5_ : (IntKind.i64.wrap (1 * 2 ^ min (l0_0.length : Int).toNat 64)) = ji5 := hji5
  have hji5z : (l0_0.length : Int) ≤ 64 → (IntKind.i64.wrap (1 * 2 ^ (l0_0.length : Int).toNat)) = ji5 := shl_small hji5
  have hji5p : (IntKind.i64.wrap (1 * 2 ^ min l0_0.length 64)) = ji5 := hji5_
  have hji5q : (l0_0.length : Int) ≤ 64 → (IntKind.i64.wrap (1 * 2 ^ l0_0.length)) = ji5 := hji5z
  have hji5r : (IntKind.i64.wrap (2 ^ min l0_0.length 64)) = ji5 := by have h_ := hji5p; rw [Int.one_mul] at h_; exact h_
  have hji5s : (l0_0.length : Int) ≤ 64 → (IntKind.i64.wrap (2 ^ l0_0.length)) = ji5 := fun hle_ => by have h_ := hji5q hle_; rw [Int.one_mul] at h_; exact h_
  have hji5u : (IntKind.i64.wrap (2 ^ min (l0_0.length : Int).toNat 64)) = ji5 := by have h_ := hji5_; rw [Int.one_mul] at h_; exact h_
  have hji5v : (l0_0.length : Int) ≤ 64 → (IntKind.i64.wrap (2 ^ (l0_0.length : Int).toNat)) = ji5 := fun hle_ => by have h_ := hji5z hle_; rw [Int.one_mul] at h_; exact h_
  have hji5y : (wrap64 (1 * 2 ^ min (l0_0.length : Int).toNat 64)) = ji5 := (i64_w _).symm.trans hji5_
  have hji5x : (l0_0.length : Int) ≤ 64 → (wrap64 (1 * 2 ^ (l0_0.length : Int).toNat)) = ji5 := fun h_ => (i64_w _).symm.trans (hji5z h_)
  have hji5A : (wrap64 (2 ^ min (l0_0.length : Int).toNat 64)) = ji5 := (i64_w _).symm.trans hji5u
  have hji5B : (l0_0.length : Int) ≤ 64 → (wrap64 (2 ^ (l0_0.length : Int).toNat)) = ji5 := fun h_ => (i64_w _).symm.trans (hji5v h_)
  have hji5C : (wrap64 (2 ^ min l0_0.length 64)) = ji5 := (i64_w _).symm.trans hji5r
  have hji5D : (l0_0.length : Int) ≤ 64 → (wrap64 (2 ^ l0_0.length)) = ji5 := fun h_ => (i64_w _).symm.trans (hji5s h_)
  obtain ⟨ji6, hji6⟩ : ∃ j_ : Int, (shl .i64 1 (l0_1.length : Int)) = j_ := ⟨_, rfl⟩
  replace H : ((skewbaldlaw01_enough.f k l0_0 l0_1 (wrap64 ((ji5) - 1)) (wrap64 ((ji6) - 1))).bind fun bt601 => (if bt601.2 = true then (if ((t598 == 4) != bt601.1) = true then (skewbaldlaw01_PlankLacks.j0 k t597 t598 (wrap64 ((ji5) - 1)) true l0_0 l0_1) else (if t598 = 0 then ((skewbaldref00_In.f t597 0 (wrap64 ((l0_1.length : Int) - 1))).bind fun t603 => (skewbaldlaw01_PlankLacks.j0 k t597 t598 (wrap64 ((ji5) - 1)) (!t603) l0_0 l0_1)) else (if t598 = 4 then (if t597 = 0 then ((skewbaldref00_In.f t597 0 (wrap64 ((l0_1.length : Int) - 1))).bind fun t604 => (skewbaldlaw01_PlankLacks.j0 k t597 t598 (wrap64 ((ji5) - 1)) (!t604) l0_0 l0_1)) else (skewbaldlaw01_PlankLacks.j0 k t597 t598 (wrap64 ((ji5) - 1)) true l0_0 l0_1)) else (skewbaldlaw01_PlankLacks.j0 k t597 t598 (wrap64 ((ji5) - 1)) true l0_0 l0_1)))) else (skewbaldlaw01_PlankLacks.j0 k t597 t598 (wrap64 ((ji5) - 1)) true l0_0 l0_1))) = some true := by first | (rw [hji6] at H; exact H) | (simp only [hji6] at H ⊢; exact H)
  (try rw [hji6] at A2)
  (try rw [hji6] at A3)
  have hji6_ : (IntKind.i64.wrap (1 * 2 ^ min (l0_1.length : Int).toNat 64)) = ji6 := hji6
  have hji6z : (l0_1.length : Int) ≤ 64 → (IntKind.i64.wrap (1 * 2 ^ (l0_1.length : Int).toNat)) = ji6 := shl_small hji6
  have hji6p : (IntKind.i64.wrap (1 * 2 ^ min l0_1.length 64)) = ji6 := hji6_
  have hji6q : (l0_1.length : Int) ≤ 64 → (IntKind.i64.wrap (1 * 2 ^ l0_1.length)) = ji6 := hji6z
  have hji6r : (IntKind.i64.wrap (2 ^ min l0_1.length 64)) = ji6 := by have h_ := hji6p; rw [Int.one_mul] at h_; exact h_
  have hji6s : (l0_1.length : Int) ≤ 64 → (IntKind.i64.wrap (2 ^ l0_1.length)) = ji6 := fun hle_ => by have h_ := hji6q hle_; rw [Int.one_mul] at h_; exact h_
  have hji6u : (IntKind.i64.wrap (2 ^ min (l0_1.length : Int).toNat 64)) = ji6 := by have h_ := hji6_; rw [Int.one_mul] at h_; exact h_
  have hji6v : (l0_1.length : Int) ≤ 64 → (IntKind.i64.wrap (2 ^ (l0_1.length : Int).toNat)) = ji6 := fun hle_ => by have h_ := hji6z hle_; rw [Int.one_mul] at h_; exact h_
  have hji6y : (wrap64 (1 * 2 ^ min (l0_1.length : Int).toNat 64)) = ji6 := (i64_w _).symm.trans hji6_
  have hji6x : (l0_1.length : Int) ≤ 64 → (wrap64 (1 * 2 ^ (l0_1.length : Int).toNat)) = ji6 := fun h_ => (i64_w _).symm.trans (hji6z h_)
  have hji6A : (wrap64 (2 ^ min (l0_1.length : Int).toNat 64)) = ji6 := (i64_w _).symm.trans hji6u
  have hji6B : (l0_1.length : Int) ≤ 64 → (wrap64 (2 ^ (l0_1.length : Int).toNat)) = ji6 := fun h_ => (i64_w _).symm.trans (hji6v h_)
  have hji6C : (wrap64 (2 ^ min l0_1.length 64)) = ji6 := (i64_w _).symm.trans hji6r
  have hji6D : (l0_1.length : Int) ≤ 64 → (wrap64 (2 ^ l0_1.length)) = ji6 := fun h_ => (i64_w _).symm.trans (hji6s h_)
  replace H := Option.bind_eq_some_iff.mp H
  obtain ⟨⟨t601, t602⟩, A70, H⟩ := H
  replace H : (if t602 = true then (if ((t598 == 4) != t601) = true then (skewbaldlaw01_PlankLacks.j0 k t597 t598 (wrap64 ((ji5) - 1)) true l0_0 l0_1) else (if t598 = 0 then ((skewbaldref00_In.f t597 0 (wrap64 ((l0_1.length : Int) - 1))).bind fun t603 => (skewbaldlaw01_PlankLacks.j0 k t597 t598 (wrap64 ((ji5) - 1)) (!t603) l0_0 l0_1)) else (if t598 = 4 then (if t597 = 0 then ((skewbaldref00_In.f t597 0 (wrap64 ((l0_1.length : Int) - 1))).bind fun t604 => (skewbaldlaw01_PlankLacks.j0 k t597 t598 (wrap64 ((ji5) - 1)) (!t604) l0_0 l0_1)) else (skewbaldlaw01_PlankLacks.j0 k t597 t598 (wrap64 ((ji5) - 1)) true l0_0 l0_1)) else (skewbaldlaw01_PlankLacks.j0 k t597 t598 (wrap64 ((ji5) - 1)) true l0_0 l0_1)))) else (skewbaldlaw01_PlankLacks.j0 k t597 t598 (wrap64 ((ji5) - 1)) true l0_0 l0_1)) = some true := H
  have A7 := Aside0.mk A70
  clear A70
  have HC8 := Aside0.mk H
  clear H
  go_enter Tryd.func11, Tryd.ntmps11
  try go_wp2_with (first | ((with_reducible refine gate_dst (N := 1) rfl ?_); (try (refine gate_guard (by rfl) ?_; dsimp only)); refine box_event ?hg (N := 1) ?hd (cs := #[.slice A0_0 l0_0.length c0_0, .slice A0_1 l0_1.length c0_1]) (t := 25) ?hr ?_; (case hd => rfl); (case hg => rfl); (case hr => first | (go_simp; done) | (go_simp; rfl)); intro gb596 hg w9 hbox hb; have n0_ := Aside0.mk (below_step bl hb); have n1_ := Aside0.mk (hbox); have n2_ := Aside0.mk ((by rw [hg]; exact (below_size bl) : w.heap.size ≤ gb596)); have n3_ := Aside0.mk ((by rw [hg]; exact (below_size bl) : w.heap.size ≤ gb596)); clear HB; have HB := n0_; have BK596 := n1_; have GW596 := n2_; have GE596 := n3_; clear n0_ n1_ n2_ n3_; clear hb hbox hg; have hcz10_0 : w9.cell? ⟨gb596, 0, none⟩ = some (.slice A0_0 l0_0.length c0_0) := (blk_cell BK596.out 0).trans rfl; have hcz10_1 : w9.cell? ⟨gb596, 1, none⟩ = some (.slice A0_1 l0_1.length c0_1) := (blk_cell BK596.out 1).trans rfl; have hfz10_0 := blk_frozen BK596.out 0; have hfz10_1 := blk_frozen BK596.out 1) | ((with_reducible refine gate_callee (f := 30) rfl ?_); refine goesL_ (some 13) rfl rfl Tryd.func30 (by kernel_rfl) rfl #[.agg #[.slice A0_0 l0_0.length c0_0, .slice A0_1 l0_1.length c0_1]] rfl (by (try simp only [List.map_toArray, List.map_cons, List.map_nil]); first | done | rfl | (simp only [List.length_drop, List.length_take]; rfl)) ?_; (with_reducible refine (plank_Lacks.calls _ _ l0_0 _ _ l0_1 t597 t598 _ ?side1 ?side2 ?side3 ?side4 ?side5 A2.out).mono ?_); (case side1 => exact cl); (case side2 => exact HC0_0.out); (case side3 => exact cl); (case side4 => exact HC0_1.out); (case side5 => exact Glob.below HGL.out bl); rintro e w11 ⟨rfl, hb⟩; refine ⟨_, rfl, ?_⟩; have n0_ := Aside0.mk (blk_below (g := gb596) (o := .cells #[.slice A0_0 l0_0.length c0_0, .slice A0_1 l0_1.length c0_1] 25 (0, 0)) bk hb); have n1_ := Aside0.mk (below_step bl hb); clear BK596; clear HB; have BK596 := n0_; have HB := n1_; clear n0_ n1_; (try clear hb); (try clear hb2); (try clear hk); (try clear hi); have hcz12_0 : w11.cell? ⟨gb596, 0, none⟩ = some (.slice A0_0 l0_0.length c0_0) := (blk_cell BK596.out 0).trans rfl; have hcz12_1 : w11.cell? ⟨gb596, 1, none⟩ = some (.slice A0_1 l0_1.length c0_1) := (blk_cell BK596.out 1).trans rfl; have hfz12_0 := blk_frozen BK596.out 0; have hfz12_1 := blk_frozen BK596.out 1) | ((with_reducible refine gate_callee (f := 34) rfl ?_); refine goesL_ (some 17) rfl rfl Tryd.func34 (by kernel_rfl) rfl #[.agg #[.slice A0_0 l0_0.length c0_0, .slice A0_1 l0_1.length c0_1]] rfl (by (try simp only [List.map_toArray, List.map_cons, List.map_nil]); first | done | rfl | (simp only [List.length_drop, List.length_take]; rfl)) ?_; (with_reducible refine (skewbaldlaw01_sound.calls k _ _ l0_0 _ _ l0_1 true _ ?side1 ?side2 ?side3 ?side4 A3.out).mono ?_); (case side1 => exact cl); (case side2 => exact HC0_0.out); (case side3 => exact cl); (case side4 => exact HC0_1.out); rintro e w13 ⟨rfl, hb⟩; refine ⟨_, rfl, ?_⟩; have n0_ := Aside0.mk (blk_below (g := gb596) (o := .cells #[.slice A0_0 l0_0.length c0_0, .slice A0_1 l0_1.length c0_1] 25 (0, 0)) bk hb); have n1_ := Aside0.mk (below_step bl hb); clear BK596; clear HB; have BK596 := n0_; have HB := n1_; clear n0_ n1_; (try clear hb); (try clear hb2); (try clear hk); (try clear hi); have hcz14_0 : w13.cell? ⟨gb596, 0, none⟩ = some (.slice A0_0 l0_0.length c0_0) := (blk_cell BK596.out 0).trans rfl; have hcz14_1 : w13.cell? ⟨gb596, 1, none⟩ = some (.slice A0_1 l0_1.length c0_1) := (blk_cell BK596.out 1).trans rfl; have hfz14_0 := blk_frozen BK596.out 0; have hfz14_1 := blk_frozen BK596.out 1))
  have n0_ := Aside0.mk (blk_drew BK596.out)
  have n1_ := Aside0.mk (below_drew1 HB.out)
  clear BK596
  clear HB
  have BK596 := n0_
  have HB := n1_
  clear n0_ n1_
  refine start_ (n := 13) (S := fun w' => w'.cell? ⟨gb596, 0, none⟩ = some (.slice A0_0 l0_0.length c0_0) ∧ w'.cell? ⟨gb596, 1, none⟩ = some (.slice A0_1 l0_1.length c0_1)) (ds := []) #[false, false, false, false, false, false, false, false, false, false, false, false, false] (by kernel_rfl) rfl rfl ⟨(blk_cell BK596.out 0).trans rfl, (blk_cell BK596.out 1).trans rfl⟩ (fun hHeld => ?_); refine with_tabW skewbaldlaw01_PlankLacks.tab5 skewbaldlaw01_PlankLacks.bits5 (fun HT_ HW_ => ?_)
  generalize w13.drew = w15 at BK596 HB hHeld ⊢
  refine pure_ (i := 1) (N := some 35) (v := ?_) (a' := ?_) #[false, true, false, false, false, false, false, false, false, false, false, false, false] rfl rfl (any_of HT_.out (by kernel_rfl)) (fun _ _ _ h => h) (Or.inl ⟨by rfl, ?_⟩) ?_ ?_
  rotate_left
  ·intro w'
   go_simp
   with_reducible rfl
  rotate_left
  ·simp only [Act.put, List.setIfInBounds_toArray, List.set_cons_zero, List.set_cons_succ, i64_w, i32_w]
   rfl
  refine pure_ (i := 2) (N := some 36) (v := ?_) (a' := ?_) #[false, true, true, false, false, false, false, false, false, false, false, false, false] rfl rfl (any_of HT_.out (by kernel_rfl)) (fun _ _ _ h => h) (Or.inl ⟨by rfl, ?_⟩) ?_ ?_
  rotate_left
  ·intro w'
   go_simp
   with_reducible rfl
  rotate_left
  ·simp only [Act.put, List.setIfInBounds_toArray, List.set_cons_zero, List.set_cons_succ, i64_w, i32_w]
   rfl
  refine take_ (i := 0) (N := some 34) (v := ?_) (a' := ?_) #[true, true, true, false, false, false, false, false, false, false, false, false, false] rfl rfl (take_ofW HT_.out HW_.out (by kernel_rfl)) (fun _ _ _ h => h) (Or.inl ⟨by rfl, ?_⟩) hHeld ?_ ?_
  rotate_left
  ·rintro w' ⟨s0, s1⟩
   go_simp
   with_reducible rfl
  rotate_left
  ·simp only [Act.put, List.setIfInBounds_toArray, List.set_cons_zero, List.set_cons_succ, i64_w, i32_w]
   rfl
  refine take_ (i := 3) (N := some 37) (v := ?_) (a' := ?_) #[true, true, true, true, false, false, false, false, false, false, false, false, false] rfl rfl (take_ofW HT_.out HW_.out (by kernel_rfl)) (fun _ _ _ h => h) (Or.inl ⟨by rfl, ?_⟩) hHeld ?_ ?_
  rotate_left
  ·rintro w' ⟨s0, s1⟩
   go_simp
   with_reducible rfl
  rotate_left
  ·simp only [Act.put, List.setIfInBounds_toArray, List.set_cons_zero, List.set_cons_succ, i64_w, i32_w]
   rfl
  refine pure_ (i := 4) (N := some 38) (v := ?_) (a' := ?_) #[true, true, true, true, true, false, false, false, false, false, false, false, false] rfl rfl (any_of HT_.out (by kernel_rfl)) (fun _ _ _ h => h) (Or.inl ⟨by rfl, ?_⟩) ?_ ?_
  rotate_left
  ·intro w'
   go_simp
   with_reducible rfl
  rotate_left
  ·simp only [Act.put, List.setIfInBounds_toArray, List.set_cons_zero, List.set_cons_succ, i64_w, i32_w]
   rfl
  refine pure_ (i := 5) (N := some 39) (v := ?_) (a' := ?_) #[true, true, true, true, true, true, false, false, false, false, false, false, false] rfl rfl (any_of HT_.out (by kernel_rfl)) (fun _ _ _ h => h) (Or.inl ⟨by rfl, ?_⟩) ?_ ?_
  rotate_left
  ·intro w'
   go_simp
   with_reducible rfl
  rotate_left
  ·simp only [Act.put, List.setIfInBounds_toArray, List.set_cons_zero, List.set_cons_succ, i64_w, i32_w]
   rfl
  refine pure_ (i := 6) (N := some 40) (v := ?_) (a' := ?_) #[true, true, true, true, true, true, true, false, false, false, false, false, false] rfl rfl (any_of HT_.out (by kernel_rfl)) (fun _ _ _ h => h) (Or.inl ⟨by rfl, ?_⟩) ?_ ?_
  rotate_left
  ·intro w'
   go_simp
   with_reducible rfl
  rotate_left
  ·simp only [Act.put, List.setIfInBounds_toArray, List.set_cons_zero, List.set_cons_succ, i64_w, i32_w]
   rfl
  refine one_ (i := 7) (N := some 41) #[true, true, true, true, true, true, true, true, false, false, false, false, false] rfl rfl (one_of HT_.out (by kernel_rfl)) (by decide) (fun K hK => ?_)
  refine goes_ Tryd.func46 (by kernel_rfl) rfl #[.agg #[.slice A0_0 l0_0.length c0_0, .slice A0_1 l0_1.length c0_1], .int .i64 (wrap64 ((ji5) - 1)), .int .i64 (wrap64 ((ji6) - 1))] (by rfl) rfl rfl (by (try simp only [List.map_toArray, List.map_cons, List.map_nil]); first | done | (simp only [hji5, hji6]; rfl) | rfl | (simp only [List.length_drop, List.length_take]; rfl)) ?_
  with_reducible refine (skewbaldlaw01_enough.calls k _ _ l0_0 _ _ l0_1 (wrap64 ((ji5) - 1)) (wrap64 ((ji6) - 1)) t601 t602 _ ?side1 ?side2 ?side3 ?side4 ?side5 A7.out).mono ?_
  (case side1 => exact cl)
  (case side2 => exact HC0_0.out)
  (case side3 => exact cl)
  (case side4 => exact HC0_1.out)
  (case side5 => exact Glob.below HGL.out bl)
  rintro e w16 ⟨rfl, hb⟩
  refine ⟨_, rfl, ?_⟩
  have n0_ := Aside0.mk (blk_below (g := gb596) (o := .cells #[.slice A0_0 l0_0.length c0_0, .slice A0_1 l0_1.length c0_1] 25 (0, 0)) bk hb)
  have n1_ := Aside0.mk (below_step bl hb)
  clear BK596
  clear HB
  have BK596 := n0_
  have HB := n1_
  clear n0_ n1_
  (try clear hb)
  (try clear hb2)
  (try clear hk)
  (try clear hi)
  refine hK.out _ _ ⟨(blk_cell BK596.out 0).trans rfl, (blk_cell BK596.out 1).trans rfl⟩ (fun hHeld => ?_)
  clear hK K
  refine norm_ (a' := ?_) ?_ ?_
  rotate_left
  ·show Act.put _ (some 41) _ = _
   simp only [Act.put, List.setIfInBounds_toArray, List.set_cons_zero, List.set_cons_succ, i64_w, i32_w]
   rfl
  refine pure_ (i := 8) (N := some 33) (v := ?_) (a' := ?_) #[true, true, true, true, true, true, true, true, true, false, false, false, false] rfl rfl (any_of HT_.out (by kernel_rfl)) (fun _ _ _ h => h) (Or.inl ⟨by rfl, ?_⟩) ?_ ?_
  rotate_left
  ·intro w'
   go_simp
   with_reducible rfl
  rotate_left
  ·simp only [Act.put, List.setIfInBounds_toArray, List.set_cons_zero, List.set_cons_succ, i64_w, i32_w]
   rfl
  refine pure_ (i := 9) (N := some 42) (v := ?_) (a' := ?_) #[true, true, true, true, true, true, true, true, true, true, false, false, false] rfl rfl (any_of HT_.out (by kernel_rfl)) (fun _ _ _ h => h) (Or.inl ⟨by rfl, ?_⟩) ?_ ?_
  rotate_left
  ·intro w'
   go_simp
   with_reducible rfl
  rotate_left
  ·simp only [Act.put, List.setIfInBounds_toArray, List.set_cons_zero, List.set_cons_succ, i64_w, i32_w]
   rfl
  refine pure_ (i := 10) (N := some 43) (v := ?_) (a' := ?_) #[true, true, true, true, true, true, true, true, true, true, true, false, false] rfl rfl (any_of HT_.out (by kernel_rfl)) (fun _ _ _ h => h) (Or.inl ⟨by rfl, ?_⟩) ?_ ?_
  rotate_left
  ·intro w'
   go_simp
   with_reducible rfl
  rotate_left
  ·simp only [Act.put, List.setIfInBounds_toArray, List.set_cons_zero, List.set_cons_succ, i64_w, i32_w]
   rfl
  refine pure_ (i := 11) (N := some 6) (v := ?_) (a' := ?_) #[true, true, true, true, true, true, true, true, true, true, true, true, false] rfl rfl (any_of HT_.out (by kernel_rfl)) (fun _ _ _ h => h) (Or.inl ⟨by rfl, ?_⟩) ?_ ?_
  rotate_left
  ·intro w'
   go_simp
   with_reducible rfl
  rotate_left
  ·simp only [Act.put, List.setIfInBounds_toArray, List.set_cons_zero, List.set_cons_succ, i64_w, i32_w]
   rfl
  refine pure_ (i := 12) (N := some 7) (v := ?_) (a' := ?_) #[true, true, true, true, true, true, true, true, true, true, true, true, true] rfl rfl (any_of HT_.out (by kernel_rfl)) (fun _ _ _ h => h) (Or.inl ⟨by rfl, ?_⟩) ?_ ?_
  rotate_left
  ·intro w'
   go_simp
   with_reducible rfl
  rotate_left
  ·simp only [Act.put, List.setIfInBounds_toArray, List.set_cons_zero, List.set_cons_succ, i64_w, i32_w]
   rfl
  refine done_ (done_of HT_.out (by kernel_rfl)) ?_
  go_upto_region 6 with (fail)
  go_cut [72] (fun v72 wc => ∃ (kq : Nat) (x72_7 : Bool), v72 = .bool x72_7 ∧ Aside0 (skewbaldlaw01_PlankLacks.j0 kq t597 t598 (wrap64 ((ji5) - 1)) x72_7 l0_0 l0_1 = some true) ∧ Aside0 (kq ≤ k) ∧ Aside0 (wc.heap[gb596]? = some (.cells #[(.slice A0_0 l0_0.length c0_0), (.slice A0_1 l0_1.length c0_1)] 25 (0, 0))) ∧ Aside0 (Below w.heap.size w wc))
  case first =>
   have H := HC8.out
   clear HC8
   by_cases c17 : t602 = true
   ·subst c17
    have H1 : (if ((t598 == 4) != t601) = true then (skewbaldlaw01_PlankLacks.j0 k t597 t598 (wrap64 ((ji5) - 1)) true l0_0 l0_1) else (if t598 = 0 then ((skewbaldref00_In.f t597 0 (wrap64 ((l0_1.length : Int) - 1))).bind fun t603 => (skewbaldlaw01_PlankLacks.j0 k t597 t598 (wrap64 ((ji5) - 1)) (!t603) l0_0 l0_1)) else (if t598 = 4 then (if t597 = 0 then ((skewbaldref00_In.f t597 0 (wrap64 ((l0_1.length : Int) - 1))).bind fun t604 => (skewbaldlaw01_PlankLacks.j0 k t597 t598 (wrap64 ((ji5) - 1)) (!t604) l0_0 l0_1)) else (skewbaldlaw01_PlankLacks.j0 k t597 t598 (wrap64 ((ji5) - 1)) true l0_0 l0_1)) else (skewbaldlaw01_PlankLacks.j0 k t597 t598 (wrap64 ((ji5) - 1)) true l0_0 l0_1)))) = some true := by rw [if_pos rfl] at H; exact H
    clear H
    have H := H1
    clear H1
    by_cases c18 : ((t598 == 4) != t601) = true
    ·rw [if_pos c18] at H
     have c18b0 : ((t598 == 4) != t601) = true := c18
     (try (have c18b1 : decide ((t598 == 4) = t601) = false := by simpa using c18))
     (try (have c18b2 : ((t598 == 4) == t601) = false := by simpa using c18))
     (try (have c18b3 : ¬ ((t598 == 4) = t601) := by simpa using c18))
     clear c18
     (first | rw [c18b0] | (simp only [i64_w, i32_w]; rw [c18b0]) | skip)
     exact absurd H (by rcases k with _ | k <;> (first | (simp [skewbaldlaw01_PlankLacks.j0]; done) | (rcases k with _ | k <;> simp [skewbaldlaw01_PlankLacks.j0])))
    ·rw [if_neg c18] at H
     have c18b0 : ((t598 == 4) != t601) = false := by simpa using c18
     (try (have c18b1 : decide ((t598 == 4) = t601) = true := by simpa using c18))
     (try (have c18b2 : ((t598 == 4) == t601) = true := by simpa using c18))
     clear c18
     (first | rw [c18b0] | (simp only [i64_w, i32_w]; rw [c18b0]) | skip)
     by_cases c19 : t598 = 0
     ·rw [if_pos c19] at H
      have c19b0 : (t598 == 0) = true := beq_iff_eq.mpr c19
      have c19b1 : (t598 != 0) = false := bne_eq_false_iff_eq.mpr c19
      clear c19
      replace H := Option.bind_eq_some_iff.mp H
      obtain ⟨t603, A200, H⟩ := H
      replace H : (skewbaldlaw01_PlankLacks.j0 k t597 t598 (wrap64 ((ji5) - 1)) (!t603) l0_0 l0_1) = some true := H
      have A20 := Aside0.mk A200
      clear A200
      have H' := Aside0.mk H
      clear H
      have hcz21_0 : w16.cell? ⟨gb596, 0, none⟩ = some (.slice A0_0 l0_0.length c0_0) := (blk_cell BK596.out 0).trans rfl
      have hcz21_1 : w16.cell? ⟨gb596, 1, none⟩ = some (.slice A0_1 l0_1.length c0_1) := (blk_cell BK596.out 1).trans rfl
      have hfz21_0 := blk_frozen BK596.out 0
      have hfz21_1 := blk_frozen BK596.out 1
      go_wp2_with (first | (go_at_call 38; (with_reducible refine (skewbaldref00_In.calls t597 0 (wrap64 ((l0_1.length : Int) - 1)) t603 _ A20.out).mono ?_); rintro e w' ⟨rfl, ⟨nd, rfl⟩⟩))
      go_meet
      case rel => exact ⟨_, (!t603), (by first | rfl | (simp; done) | (simp [*]; done)), H', ⟨by first | omega | exact Nat.le_refl _⟩, ⟨bk⟩, ⟨bl⟩⟩
     ·rw [if_neg c19] at H
      have c19b0 : (t598 == 0) = false := beq_eq_false_iff_ne.mpr c19
      have c19b1 : (t598 != 0) = true := bne_iff_ne.mpr c19
      by_cases c22 : t598 = 4
      ·rw [if_pos c22] at H
       have c22b0 : (t598 == 4) = true := beq_iff_eq.mpr c22
       have c22b1 : (t598 != 4) = false := bne_eq_false_iff_eq.mpr c22
       obtain rfl : t601 = true := by
         have h_ := c18b0
         rw [c22b0] at h_
         revert h_
         cases t601 <;> simp
       clear c22
       by_cases c23 : t597 = 0
       ·rw [if_pos c23] at H
        have c23b0 : (t597 == 0) = true := beq_iff_eq.mpr c23
        have c23b1 : (t597 != 0) = false := bne_eq_false_iff_eq.mpr c23
        clear c23
        replace H := Option.bind_eq_some_iff.mp H
        obtain ⟨t604, A240, H⟩ := H
        replace H : (skewbaldlaw01_PlankLacks.j0 k t597 t598 (wrap64 ((ji5) - 1)) (!t604) l0_0 l0_1) = some true := H
        have A24 := Aside0.mk A240
        clear A240
        have H' := Aside0.mk H
        clear H
        have hcz25_0 : w16.cell? ⟨gb596, 0, none⟩ = some (.slice A0_0 l0_0.length c0_0) := (blk_cell BK596.out 0).trans rfl
        have hcz25_1 : w16.cell? ⟨gb596, 1, none⟩ = some (.slice A0_1 l0_1.length c0_1) := (blk_cell BK596.out 1).trans rfl
        have hfz25_0 := blk_frozen BK596.out 0
        have hfz25_1 := blk_frozen BK596.out 1
        go_wp2_with (first | (go_at_call 38; (with_reducible refine (skewbaldref00_In.calls t597 0 (wrap64 ((l0_1.length : Int) - 1)) t604 _ A24.out).mono ?_); rintro e w' ⟨rfl, ⟨nd, rfl⟩⟩))
        go_meet
        case rel => exact ⟨_, (!t604), (by first | rfl | (simp; done) | (simp [*]; done)), H', ⟨by first | omega | exact Nat.le_refl _⟩, ⟨bk⟩, ⟨bl⟩⟩
       ·rw [if_neg c23] at H
        have c23b0 : (t597 == 0) = false := beq_eq_false_iff_ne.mpr c23
        have c23b1 : (t597 != 0) = true := bne_iff_ne.mpr c23
        exact absurd H (by rcases k with _ | k <;> (first | (simp [skewbaldlaw01_PlankLacks.j0]; done) | (rcases k with _ | k <;> simp [skewbaldlaw01_PlankLacks.j0])))
      ·rw [if_neg c22] at H
       have c22b0 : (t598 == 4) = false := beq_eq_false_iff_ne.mpr c22
       have c22b1 : (t598 != 4) = true := bne_iff_ne.mpr c22
       exact absurd H (by rcases k with _ | k <;> (first | (simp [skewbaldlaw01_PlankLacks.j0]; done) | (rcases k with _ | k <;> simp [skewbaldlaw01_PlankLacks.j0])))
   ·replace c17 := Bool.eq_false_iff.mpr c17
    subst c17
    have H1 : (skewbaldlaw01_PlankLacks.j0 k t597 t598 (wrap64 ((ji5) - 1)) true l0_0 l0_1) = some true := by rw [if_neg (show ¬ (false = true) by decide)] at H; exact H
    clear H
    have H := H1
    clear H1
    exact absurd H (by rcases k with _ | k <;> (first | (simp [skewbaldlaw01_PlankLacks.j0]; done) | (rcases k with _ | k <;> simp [skewbaldlaw01_PlankLacks.j0])))
  case rest =>
   clear HC8
   try clear c1
   try clear c2
   try clear p2
   try clear c3
   try clear c4
   try clear p6
   try clear c11
   try clear c17
   try clear c18
   try clear c18b0
   try clear c18b1
   try clear c18b2
   try clear c19
   try clear c19b0
   try clear c19b1
   try clear c22
   try clear c22b0
   try clear c22b1
   try clear c23
   try clear c23b0
   try clear c23b1
   try clear hcz10_0
   try clear hcz10_1
   try clear hcz12_0
   try clear hcz12_1
   try clear hcz14_0
   try clear hcz14_1
   try clear hcz21_0
   try clear hcz21_1
   try clear hcz25_0
   try clear hcz25_1
   try clear hfz10_0
   try clear hfz10_1
   try clear hfz12_0
   try clear hfz12_1
   try clear hfz14_0
   try clear hfz14_1
   try clear hfz21_0
   try clear hfz21_1
   try clear hfz25_0
   try clear hfz25_1
   obtain ⟨kq, x72_7, rfl, HA, HJ7, BK596, HB⟩ := hcut
   cases kq with
   | zero => exact absurd HA.out (by simp [skewbaldlaw01_PlankLacks.j0])
   | succ kj7 =>
    have H := HA.out
    clear HA
    simp only [skewbaldlaw01_PlankLacks.j0] at H
    by_cases c26 : x72_7 = true
    ·subst c26
     have H1 : (some false) = some true := by rw [if_pos rfl] at H; exact H
     clear H
     have H := H1
     clear H1
     exact absurd H (by simp)
    ·replace c26 := Bool.eq_false_iff.mpr c26
     subst c26
     have H1 : (if t598 = 0 then (if 0 ≤ t597 then ((skewbaldlaw01_enough.f kj7 l0_0 l0_1 (wrap64 ((ji5) - 1)) (wrap64 ((shl .i64 1 t597) - 1))).bind fun bt605 => (if 0 ≤ (wrap64 (t597 + 1)) then ((skewbaldlaw01_enough.f kj7 l0_0 l0_1 (wrap64 ((ji5) - 1)) (wrap64 ((shl .i64 1 (wrap64 (t597 + 1))) - 1))).bind fun bt607 => (if bt605.2 = true then (if bt607.2 = true then (if bt605.1 = true then (if bt607.1 = true then (some false) else ((skewbaldlaw01_sawn.f).bind fun t609 => (some t609))) else (some false)) else (some false)) else (some false))) else (none))) else (none)) else ((skewbaldlaw01_sawn.f).bind fun t610 => (some t610))) = some true := by rw [if_neg (show ¬ (false = true) by decide)] at H; exact H
     clear H
     have H := H1
     clear H1
     by_cases c27 : t598 = 0
     ·rw [if_pos c27] at H
      have c27b0 : (t598 == 0) = true := beq_iff_eq.mpr c27
      have c27b1 : (t598 != 0) = false := bne_eq_false_iff_eq.mpr c27
      clear c27
      by_cases c28 : 0 ≤ t597
      ·rw [if_pos c28] at H
       have c28b0 := eq_true c28
       have c28b1 : decide (0 ≤ t597) = true := decide_eq_true c28
       clear c28
       obtain ⟨ji29, hji29⟩ : ∃ j_ : Int, (shl .i64 1 t597) = j_ := ⟨_, rfl⟩
       replace H : ((skewbaldlaw01_enough.f kj7 l0_0 l0_1 (wrap64 ((ji5) - 1)) (wrap64 ((ji29) - 1))).bind fun bt605 => (if 0 ≤ (wrap64 (t597 + 1)) then ((skewbaldlaw01_enough.f kj7 l0_0 l0_1 (wrap64 ((ji5) - 1)) (wrap64 ((shl .i64 1 (wrap64 (t597 + 1))) - 1))).bind fun bt607 => (if bt605.2 = true then (if bt607.2 = true then (if bt605.1 = true then (if bt607.1 = true then (some false) else ((skewbaldlaw01_sawn.f).bind fun t609 => (some t609))) else (some false)) else (some false)) else (some false))) else (none))) = some true := by first | (rw [hji29] at H; exact H) | (simp only [hji29] at H ⊢; exact H)
       have hji29_ : (IntKind.i64.wrap (1 * 2 ^ min t597.toNat 64)) = ji29 := hji29
       have hji29z : t597 ≤ 64 → (IntKind.i64.wrap (1 * 2 ^ t597.toNat)) = ji29 := shl_small hji29
       have hji29u : (IntKind.i64.wrap (2 ^ min t597.toNat 64)) = ji29 := by have h_ := hji29_; rw [Int.one_mul] at h_; exact h_
       have hji29v : t597 ≤ 64 → (IntKind.i64.wrap (2 ^ t597.toNat)) = ji29 := fun hle_ => by have h_ := hji29z hle_; rw [Int.one_mul] at h_; exact h_
       have hji29y : (wrap64 (1 * 2 ^ min t597.toNat 64)) = ji29 := (i64_w _).symm.trans hji29_
       have hji29x : t597 ≤ 64 → (wrap64 (1 * 2 ^ t597.toNat)) = ji29 := fun h_ => (i64_w _).symm.trans (hji29z h_)
       have hji29A : (wrap64 (2 ^ min t597.toNat 64)) = ji29 := (i64_w _).symm.trans hji29u
       have hji29B : t597 ≤ 64 → (wrap64 (2 ^ t597.toNat)) = ji29 := fun h_ => (i64_w _).symm.trans (hji29v h_)
       replace H := Option.bind_eq_some_iff.mp H
       obtain ⟨⟨t605, t606⟩, A300, H⟩ := H
       replace H : (if 0 ≤ (wrap64 (t597 + 1)) then ((skewbaldlaw01_enough.f kj7 l0_0 l0_1 (wrap64 ((ji5) - 1)) (wrap64 ((shl .i64 1 (wrap64 (t597 + 1))) - 1))).bind fun bt607 => (if t606 = true then (if bt607.2 = true then (if t605 = true then (if bt607.1 = true then (some false) else ((skewbaldlaw01_sawn.f).bind fun t609 => (some t609))) else (some false)) else (some false)) else (some false))) else (none)) = some true := H
       have A30 := Aside0.mk A300
       clear A300
       obtain ⟨ji31, hji31⟩ : ∃ j_ : Int, (wrap64 (t597 + 1)) = j_ := ⟨_, rfl⟩
       replace H : (if 0 ≤ (ji31) then ((skewbaldlaw01_enough.f kj7 l0_0 l0_1 (wrap64 ((ji5) - 1)) (wrap64 ((shl .i64 1 (ji31)) - 1))).bind fun bt607 => (if t606 = true then (if bt607.2 = true then (if t605 = true then (if bt607.1 = true then (some false) else ((skewbaldlaw01_sawn.f).bind fun t609 => (some t609))) else (some false)) else (some false)) else (some false))) else (none)) = some true := by first | (rw [hji31] at H; exact H) | (simp only [hji31] at H ⊢; exact H)
       (try rw [hji31] at A30)
       have hji31w : (IntKind.i64.wrap (t597 + 1)) = ji31 := (i64_w _).trans hji31
       by_cases c32 : 0 ≤ (ji31)
       ·rw [if_pos c32] at H
        have c32b0 := eq_true c32
        have c32b1 : decide (0 ≤ (ji31)) = true := decide_eq_true c32
        clear c32
        obtain ⟨ji33, hji33⟩ : ∃ j_ : Int, (shl .i64 1 (ji31)) = j_ := ⟨_, rfl⟩
        replace H : ((skewbaldlaw01_enough.f kj7 l0_0 l0_1 (wrap64 ((ji5) - 1)) (wrap64 ((ji33) - 1))).bind fun bt607 => (if t606 = true then (if bt607.2 = true then (if t605 = true then (if bt607.1 = true then (some false) else ((skewbaldlaw01_sawn.f).bind fun t609 => (some t609))) else (some false)) else (some false)) else (some false))) = some true := by first | (rw [hji33] at H; exact H) | (simp only [hji33] at H ⊢; exact H)
        (try rw [hji33] at A30)
        have hji33_ : (IntKind.i64.wrap (1 * 2 ^ min (ji31).toNat 64)) = ji33 := hji33
        have hji33z : (ji31) ≤ 64 → (IntKind.i64.wrap (1 * 2 ^ (ji31).toNat)) = ji33 := shl_small hji33
        have hji33u : (IntKind.i64.wrap (2 ^ min (ji31).toNat 64)) = ji33 := by have h_ := hji33_; rw [Int.one_mul] at h_; exact h_
        have hji33v : (ji31) ≤ 64 → (IntKind.i64.wrap (2 ^ (ji31).toNat)) = ji33 := fun hle_ => by have h_ := hji33z hle_; rw [Int.one_mul] at h_; exact h_
        have hji33y : (wrap64 (1 * 2 ^ min (ji31).toNat 64)) = ji33 := (i64_w _).symm.trans hji33_
        have hji33x : (ji31) ≤ 64 → (wrap64 (1 * 2 ^ (ji31).toNat)) = ji33 := fun h_ => (i64_w _).symm.trans (hji33z h_)
        have hji33A : (wrap64 (2 ^ min (ji31).toNat 64)) = ji33 := (i64_w _).symm.trans hji33u
        have hji33B : (ji31) ≤ 64 → (wrap64 (2 ^ (ji31).toNat)) = ji33 := fun h_ => (i64_w _).symm.trans (hji33v h_)
        replace H := Option.bind_eq_some_iff.mp H
        obtain ⟨⟨t607, t608⟩, A340, H⟩ := H
        replace H : (if t606 = true then (if t608 = true then (if t605 = true then (if t607 = true then (some false) else ((skewbaldlaw01_sawn.f).bind fun t609 => (some t609))) else (some false)) else (some false)) else (some false)) = some true := H
        have A34 := Aside0.mk A340
        clear A340
        by_cases c35 : t606 = true
        ·subst c35
         have H1 : (if t608 = true then (if t605 = true then (if t607 = true then (some false) else ((skewbaldlaw01_sawn.f).bind fun t609 => (some t609))) else (some false)) else (some false)) = some true := by rw [if_pos rfl] at H; exact H
         clear H
         have H := H1
         clear H1
         by_cases c36 : t608 = true
         ·subst c36
          have H1 : (if t605 = true then (if t607 = true then (some false) else ((skewbaldlaw01_sawn.f).bind fun t609 => (some t609))) else (some false)) = some true := by rw [if_pos rfl] at H; exact H
          clear H
          have H := H1
          clear H1
          by_cases c37 : t605 = true
          ·subst c37
           have H1 : (if t607 = true then (some false) else ((skewbaldlaw01_sawn.f).bind fun t609 => (some t609))) = some true := by rw [if_pos rfl] at H; exact H
           clear H
           have H := H1
           clear H1
           by_cases c38 : t607 = true
           ·subst c38
            have H1 : (some false) = some true := by rw [if_pos rfl] at H; exact H
            clear H
            have H := H1
            clear H1
            exact absurd H (by simp)
           ·replace c38 := Bool.eq_false_iff.mpr c38
            subst c38
            have H1 : ((skewbaldlaw01_sawn.f).bind fun t609 => (some t609)) = some true := by rw [if_neg (show ¬ (false = true) by decide)] at H; exact H
            clear H
            have H := H1
            clear H1
            replace H := Option.bind_eq_some_iff.mp H
            obtain ⟨t609, A390, H⟩ := H
            replace H : (some t609) = some true := H
            have A39 := Aside0.mk A390
            clear A390
            have HE_ := Aside0.mk (Option.some.inj H)
            clear H
            try go_wp2
            have n0_ := Aside0.mk (blk_drew BK596.out)
            have n1_ := Aside0.mk (below_drew1 HB.out)
            clear BK596
            clear HB
            have BK596 := n0_
            have HB := n1_
            clear n0_ n1_
            refine start_ (n := 11) (S := fun w' => w'.cell? ⟨gb596, 0, none⟩ = some (.slice A0_0 l0_0.length c0_0) ∧ w'.cell? ⟨gb596, 1, none⟩ = some (.slice A0_1 l0_1.length c0_1)) (ds := []) #[false, false, false, false, false, false, false, false, false, false, false] (by kernel_rfl) rfl rfl ⟨(blk_cell BK596.out 0).trans rfl, (blk_cell BK596.out 1).trans rfl⟩ (fun hHeld => ?_); refine with_tabW skewbaldlaw01_PlankLacks.tab10 skewbaldlaw01_PlankLacks.bits10 (fun HT_ HW_ => ?_)
            generalize wc.drew = w40 at BK596 HB hHeld ⊢
            refine pure_ (i := 1) (N := some 78) (v := ?_) (a' := ?_) #[false, true, false, false, false, false, false, false, false, false, false] rfl rfl (any_of HT_.out (by kernel_rfl)) (fun _ _ _ h => h) (Or.inl ⟨by rfl, ?_⟩) ?_ ?_
            rotate_left
            ·intro w'
             go_simp
             with_reducible rfl
            rotate_left
            ·simp only [Act.put, List.setIfInBounds_toArray, List.set_cons_zero, List.set_cons_succ, i64_w, i32_w]
             rfl
            refine pure_ (i := 2) (N := some 79) (v := ?_) (a' := ?_) #[false, true, true, false, false, false, false, false, false, false, false] rfl rfl (any_of HT_.out (by kernel_rfl)) (fun _ _ _ h => h) (Or.inl ⟨by rfl, ?_⟩) ?_ ?_
            rotate_left
            ·intro w'
             go_simp
             with_reducible rfl
            rotate_left
            ·simp only [Act.put, List.setIfInBounds_toArray, List.set_cons_zero, List.set_cons_succ, i64_w, i32_w]
             rfl
            refine pure_ (i := 3) (N := some 80) (v := ?_) (a' := ?_) #[false, true, true, true, false, false, false, false, false, false, false] rfl rfl (any_of HT_.out (by kernel_rfl)) (fun _ _ _ h => h) (Or.inl ⟨by rfl, ?_⟩) ?_ ?_
            rotate_left
            ·intro w'
             go_simp
             with_reducible rfl
            rotate_left
            ·simp only [Act.put, List.setIfInBounds_toArray, List.set_cons_zero, List.set_cons_succ, i64_w, i32_w]
             rfl
            refine pure_ (i := 4) (N := some 81) (v := ?_) (a' := ?_) #[false, true, true, true, true, false, false, false, false, false, false] rfl rfl (any_of HT_.out (by kernel_rfl)) (fun _ _ _ h => h) (Or.inl ⟨by rfl, ?_⟩) ?_ ?_
            rotate_left
            ·intro w'
             go_simp
             with_reducible rfl
            rotate_left
            ·simp only [Act.put, List.setIfInBounds_toArray, List.set_cons_zero, List.set_cons_succ, i64_w, i32_w]
             rfl
            refine take_ (i := 0) (N := some 77) (v := ?_) (a' := ?_) #[true, true, true, true, true, false, false, false, false, false, false] rfl rfl (take_ofW HT_.out HW_.out (by kernel_rfl)) (fun _ _ _ h => h) (Or.inl ⟨by rfl, ?_⟩) hHeld ?_ ?_
            rotate_left
            ·rintro w' ⟨s0, s1⟩
             go_simp
             with_reducible rfl
            rotate_left
            ·simp only [Act.put, List.setIfInBounds_toArray, List.set_cons_zero, List.set_cons_succ, i64_w, i32_w]
             rfl
            refine one_ (i := 5) (N := some 82) #[true, true, true, true, true, true, false, false, false, false, false] rfl rfl (one_of HT_.out (by kernel_rfl)) (by decide) (fun K hK => ?_)
            refine goes_ Tryd.func46 (by kernel_rfl) rfl #[.agg #[.slice A0_0 l0_0.length c0_0, .slice A0_1 l0_1.length c0_1], .int .i64 (wrap64 ((ji5) - 1)), .int .i64 (wrap64 ((ji29) - 1))] (by rfl) rfl rfl (by (try simp only [List.map_toArray, List.map_cons, List.map_nil]); first | done | (simp only [hji29, hji5]; rfl) | rfl | (simp only [List.length_drop, List.length_take]; rfl)) ?_
            with_reducible refine (skewbaldlaw01_enough.calls kj7 _ _ l0_0 _ _ l0_1 (wrap64 ((ji5) - 1)) (wrap64 ((ji29) - 1)) true true _ ?side1 ?side2 ?side3 ?side4 ?side5 A30.out).mono ?_
            (case side1 => exact cl)
            (case side2 => exact HC0_0.out)
            (case side3 => exact cl)
            (case side4 => exact HC0_1.out)
            (case side5 => exact Glob.below HGL.out bl)
            rintro e w41 ⟨rfl, hb⟩
            refine ⟨_, rfl, ?_⟩
            have n0_ := Aside0.mk (blk_below (g := gb596) (o := .cells #[.slice A0_0 l0_0.length c0_0, .slice A0_1 l0_1.length c0_1] 25 (0, 0)) bk hb)
            have n1_ := Aside0.mk (below_step bl hb)
            clear BK596
            clear HB
            have BK596 := n0_
            have HB := n1_
            clear n0_ n1_
            (try clear hb)
            (try clear hb2)
            (try clear hk)
            (try clear hi)
            refine hK.out _ _ ⟨(blk_cell BK596.out 0).trans rfl, (blk_cell BK596.out 1).trans rfl⟩ (fun hHeld => ?_)
            clear hK K
            refine norm_ (a' := ?_) ?_ ?_
            rotate_left
            ·show Act.put _ (some 82) _ = _
             simp only [Act.put, List.setIfInBounds_toArray, List.set_cons_zero, List.set_cons_succ, i64_w, i32_w]
             rfl
            refine pure_ (i := 6) (N := some 76) (v := ?_) (a' := ?_) #[true, true, true, true, true, true, true, false, false, false, false] rfl rfl (any_of HT_.out (by kernel_rfl)) (fun _ _ _ h => h) (Or.inl ⟨by rfl, ?_⟩) ?_ ?_
            rotate_left
            ·intro w'
             go_simp
             with_reducible rfl
            rotate_left
            ·simp only [Act.put, List.setIfInBounds_toArray, List.set_cons_zero, List.set_cons_succ, i64_w, i32_w]
             rfl
            refine pure_ (i := 7) (N := some 83) (v := ?_) (a' := ?_) #[true, true, true, true, true, true, true, true, false, false, false] rfl rfl (any_of HT_.out (by kernel_rfl)) (fun _ _ _ h => h) (Or.inl ⟨by rfl, ?_⟩) ?_ ?_
            rotate_left
            ·intro w'
             go_simp
             with_reducible rfl
            rotate_left
            ·simp only [Act.put, List.setIfInBounds_toArray, List.set_cons_zero, List.set_cons_succ, i64_w, i32_w]
             rfl
            refine pure_ (i := 8) (N := some 84) (v := ?_) (a' := ?_) #[true, true, true, true, true, true, true, true, true, false, false] rfl rfl (any_of HT_.out (by kernel_rfl)) (fun _ _ _ h => h) (Or.inl ⟨by rfl, ?_⟩) ?_ ?_
            rotate_left
            ·intro w'
             go_simp
             with_reducible rfl
            rotate_left
            ·simp only [Act.put, List.setIfInBounds_toArray, List.set_cons_zero, List.set_cons_succ, i64_w, i32_w]
             rfl
            refine pure_ (i := 9) (N := some 8) (v := ?_) (a' := ?_) #[true, true, true, true, true, true, true, true, true, true, false] rfl rfl (any_of HT_.out (by kernel_rfl)) (fun _ _ _ h => h) (Or.inl ⟨by rfl, ?_⟩) ?_ ?_
            rotate_left
            ·intro w'
             go_simp
             with_reducible rfl
            rotate_left
            ·simp only [Act.put, List.setIfInBounds_toArray, List.set_cons_zero, List.set_cons_succ, i64_w, i32_w]
             rfl
            refine pure_ (i := 10) (N := some 7) (v := ?_) (a' := ?_) #[true, true, true, true, true, true, true, true, true, true, true] rfl rfl (any_of HT_.out (by kernel_rfl)) (fun _ _ _ h => h) (Or.inl ⟨by rfl, ?_⟩) ?_ ?_
            rotate_left
            ·intro w'
             go_simp
             with_reducible rfl
            rotate_left
            ·simp only [Act.put, List.setIfInBounds_toArray, List.set_cons_zero, List.set_cons_succ, i64_w, i32_w]
             rfl
            refine done_ (done_of HT_.out (by kernel_rfl)) ?_
            try go_wp2
            have n0_ := Aside0.mk (blk_drew BK596.out)
            have n1_ := Aside0.mk (below_drew1 HB.out)
            clear BK596
            clear HB
            have BK596 := n0_
            have HB := n1_
            clear n0_ n1_
            refine start_ (n := 12) (S := fun w' => w'.cell? ⟨gb596, 0, none⟩ = some (.slice A0_0 l0_0.length c0_0) ∧ w'.cell? ⟨gb596, 1, none⟩ = some (.slice A0_1 l0_1.length c0_1)) (ds := []) #[false, false, false, false, false, false, false, false, false, false, false, false] (by kernel_rfl) rfl rfl ⟨(blk_cell BK596.out 0).trans rfl, (blk_cell BK596.out 1).trans rfl⟩ (fun hHeld => ?_); refine with_tabW skewbaldlaw01_PlankLacks.tab11 skewbaldlaw01_PlankLacks.bits11 (fun HT_ HW_ => ?_)
            generalize w41.drew = w42 at BK596 HB hHeld ⊢
            refine pure_ (i := 1) (N := some 87) (v := ?_) (a' := ?_) #[false, true, false, false, false, false, false, false, false, false, false, false] rfl rfl (any_of HT_.out (by kernel_rfl)) (fun _ _ _ h => h) (Or.inl ⟨by rfl, ?_⟩) ?_ ?_
            rotate_left
            ·intro w'
             go_simp
             with_reducible rfl
            rotate_left
            ·simp only [Act.put, List.setIfInBounds_toArray, List.set_cons_zero, List.set_cons_succ, i64_w, i32_w]
             rfl
            refine pure_ (i := 2) (N := some 88) (v := ?_) (a' := ?_) #[false, true, true, false, false, false, false, false, false, false, false, false] rfl rfl (any_of HT_.out (by kernel_rfl)) (fun _ _ _ h => h) (Or.inl ⟨by rfl, ?_⟩) ?_ ?_
            rotate_left
            ·intro w'
             go_simp
             with_reducible rfl
            rotate_left
            ·simp only [Act.put, List.setIfInBounds_toArray, List.set_cons_zero, List.set_cons_succ, i64_w, i32_w]
             rfl
            refine pure_ (i := 3) (N := some 89) (v := ?_) (a' := ?_) #[false, true, true, true, false, false, false, false, false, false, false, false] rfl rfl (any_of HT_.out (by kernel_rfl)) (fun _ _ _ h => h) (Or.inl ⟨by rfl, ?_⟩) ?_ ?_
            rotate_left
            ·intro w'
             go_simp
             with_reducible rfl
            rotate_left
            ·simp only [Act.put, List.setIfInBounds_toArray, List.set_cons_zero, List.set_cons_succ, i64_w, i32_w]
             rfl
            refine pure_ (i := 4) (N := some 90) (v := ?_) (a' := ?_) #[false, true, true, true, true, false, false, false, false, false, false, false] rfl rfl (any_of HT_.out (by kernel_rfl)) (fun _ _ _ h => h) (Or.inl ⟨by rfl, ?_⟩) ?_ ?_
            rotate_left
            ·intro w'
             go_simp
             with_reducible rfl
            rotate_left
            ·simp only [Act.put, List.setIfInBounds_toArray, List.set_cons_zero, List.set_cons_succ, i64_w, i32_w]
             rfl
            refine pure_ (i := 5) (N := some 91) (v := ?_) (a' := ?_) #[false, true, true, true, true, true, false, false, false, false, false, false] rfl rfl (any_of HT_.out (by kernel_rfl)) (fun _ _ _ h => h) (Or.inl ⟨by rfl, ?_⟩) ?_ ?_
            rotate_left
            ·intro w'
             go_simp
             with_reducible rfl
            rotate_left
            ·simp only [Act.put, List.setIfInBounds_toArray, List.set_cons_zero, List.set_cons_succ, i64_w, i32_w]
             rfl
            refine take_ (i := 0) (N := some 86) (v := ?_) (a' := ?_) #[true, true, true, true, true, true, false, false, false, false, false, false] rfl rfl (take_ofW HT_.out HW_.out (by kernel_rfl)) (fun _ _ _ h => h) (Or.inl ⟨by rfl, ?_⟩) hHeld ?_ ?_
            rotate_left
            ·rintro w' ⟨s0, s1⟩
             go_simp
             with_reducible rfl
            rotate_left
            ·simp only [Act.put, List.setIfInBounds_toArray, List.set_cons_zero, List.set_cons_succ, i64_w, i32_w]
             rfl
            refine one_ (i := 6) (N := some 92) #[true, true, true, true, true, true, true, false, false, false, false, false] rfl rfl (one_of HT_.out (by kernel_rfl)) (by decide) (fun K hK => ?_)
            refine goes_ Tryd.func46 (by kernel_rfl) rfl #[.agg #[.slice A0_0 l0_0.length c0_0, .slice A0_1 l0_1.length c0_1], .int .i64 (wrap64 ((ji5) - 1)), .int .i64 (wrap64 ((ji33) - 1))] (by rfl) rfl rfl (by (try simp only [List.map_toArray, List.map_cons, List.map_nil]); first | done | (simp only [hji33, hji5]; rfl) | rfl | (simp only [List.length_drop, List.length_take]; rfl)) ?_
            with_reducible refine (skewbaldlaw01_enough.calls kj7 _ _ l0_0 _ _ l0_1 (wrap64 ((ji5) - 1)) (wrap64 ((ji33) - 1)) false true _ ?side1 ?side2 ?side3 ?side4 ?side5 A34.out).mono ?_
            (case side1 => exact cl)
            (case side2 => exact HC0_0.out)
            (case side3 => exact cl)
            (case side4 => exact HC0_1.out)
            (case side5 => exact Glob.below HGL.out bl)
            rintro e w43 ⟨rfl, hb⟩
            refine ⟨_, rfl, ?_⟩
            have n0_ := Aside0.mk (blk_below (g := gb596) (o := .cells #[.slice A0_0 l0_0.length c0_0, .slice A0_1 l0_1.length c0_1] 25 (0, 0)) bk hb)
            have n1_ := Aside0.mk (below_step bl hb)
            clear BK596
            clear HB
            have BK596 := n0_
            have HB := n1_
            clear n0_ n1_
            (try clear hb)
            (try clear hb2)
            (try clear hk)
            (try clear hi)
            refine hK.out _ _ ⟨(blk_cell BK596.out 0).trans rfl, (blk_cell BK596.out 1).trans rfl⟩ (fun hHeld => ?_)
            clear hK K
            refine norm_ (a' := ?_) ?_ ?_
            rotate_left
            ·show Act.put _ (some 92) _ = _
             simp only [Act.put, List.setIfInBounds_toArray, List.set_cons_zero, List.set_cons_succ, i64_w, i32_w]
             rfl
            refine pure_ (i := 7) (N := some 85) (v := ?_) (a' := ?_) #[true, true, true, true, true, true, true, true, false, false, false, false] rfl rfl (any_of HT_.out (by kernel_rfl)) (fun _ _ _ h => h) (Or.inl ⟨by rfl, ?_⟩) ?_ ?_
            rotate_left
            ·intro w'
             go_simp
             with_reducible rfl
            rotate_left
            ·simp only [Act.put, List.setIfInBounds_toArray, List.set_cons_zero, List.set_cons_succ, i64_w, i32_w]
             rfl
            refine pure_ (i := 8) (N := some 93) (v := ?_) (a' := ?_) #[true, true, true, true, true, true, true, true, true, false, false, false] rfl rfl (any_of HT_.out (by kernel_rfl)) (fun _ _ _ h => h) (Or.inl ⟨by rfl, ?_⟩) ?_ ?_
            rotate_left
            ·intro w'
             go_simp
             with_reducible rfl
            rotate_left
            ·simp only [Act.put, List.setIfInBounds_toArray, List.set_cons_zero, List.set_cons_succ, i64_w, i32_w]
             rfl
            refine pure_ (i := 9) (N := some 94) (v := ?_) (a' := ?_) #[true, true, true, true, true, true, true, true, true, true, false, false] rfl rfl (any_of HT_.out (by kernel_rfl)) (fun _ _ _ h => h) (Or.inl ⟨by rfl, ?_⟩) ?_ ?_
            rotate_left
            ·intro w'
             go_simp
             with_reducible rfl
            rotate_left
            ·simp only [Act.put, List.setIfInBounds_toArray, List.set_cons_zero, List.set_cons_succ, i64_w, i32_w]
             rfl
            refine pure_ (i := 10) (N := some 9) (v := ?_) (a' := ?_) #[true, true, true, true, true, true, true, true, true, true, true, false] rfl rfl (any_of HT_.out (by kernel_rfl)) (fun _ _ _ h => h) (Or.inl ⟨by rfl, ?_⟩) ?_ ?_
            rotate_left
            ·intro w'
             go_simp
             with_reducible rfl
            rotate_left
            ·simp only [Act.put, List.setIfInBounds_toArray, List.set_cons_zero, List.set_cons_succ, i64_w, i32_w]
             rfl
            refine pure_ (i := 11) (N := some 10) (v := ?_) (a' := ?_) #[true, true, true, true, true, true, true, true, true, true, true, true] rfl rfl (any_of HT_.out (by kernel_rfl)) (fun _ _ _ h => h) (Or.inl ⟨by rfl, ?_⟩) ?_ ?_
            rotate_left
            ·intro w'
             go_simp
             with_reducible rfl
            rotate_left
            ·simp only [Act.put, List.setIfInBounds_toArray, List.set_cons_zero, List.set_cons_succ, i64_w, i32_w]
             rfl
            refine done_ (done_of HT_.out (by kernel_rfl)) ?_
            try go_wp2_with (first | (go_at_call 23; (with_reducible refine (skewbaldlaw01_sawn.calls  t609 _ ?side1 A39.out).mono ?_); (case side1 => exact Glob.below HGL.out bl); rintro e w44 ⟨rfl, hb⟩; have n0_ := Aside0.mk (blk_below (g := gb596) (o := .cells #[.slice A0_0 l0_0.length c0_0, .slice A0_1 l0_1.length c0_1] 25 (0, 0)) bk hb); have n1_ := Aside0.mk (below_step bl hb); clear BK596; clear HB; have BK596 := n0_; have HB := n1_; clear n0_ n1_; (try clear hb); (try clear hb2); (try clear hk); (try clear hi)))
            go_ret
            exact ⟨by first | rfl | (rw [HE_.out]; done) | (simp [HE_.out]; done) | (simp [errW_none, errW_some] <;> rfl) | (simp only [← hji5, ← hji6, ← hji29, ← hji31, ← hji33]; first | rfl | (simp [errW_none, errW_some] <;> rfl)) | (simp [*, errW_none, errW_some] <;> rfl), bl⟩
          ·replace c37 := Bool.eq_false_iff.mpr c37
           subst c37
           have H1 : (some false) = some true := by rw [if_neg (show ¬ (false = true) by decide)] at H; exact H
           clear H
           have H := H1
           clear H1
           exact absurd H (by simp)
         ·replace c36 := Bool.eq_false_iff.mpr c36
          subst c36
          have H1 : (some false) = some true := by rw [if_neg (show ¬ (false = true) by decide)] at H; exact H
          clear H
          have H := H1
          clear H1
          exact absurd H (by simp)
        ·replace c35 := Bool.eq_false_iff.mpr c35
         subst c35
         have H1 : (some false) = some true := by rw [if_neg (show ¬ (false = true) by decide)] at H; exact H
         clear H
         have H := H1
         clear H1
         exact absurd H (by simp)
       ·rw [if_neg c32] at H
        exact absurd H (by simp)
      ·rw [if_neg c28] at H
       exact absurd H (by simp)
     ·rw [if_neg c27] at H
      have c27b0 : (t598 == 0) = false := beq_eq_false_iff_ne.mpr c27
      have c27b1 : (t598 != 0) = true := bne_iff_ne.mpr c27
      replace H := Option.bind_eq_some_iff.mp H
      obtain ⟨t610, A450, H⟩ := H
      replace H : (some t610) = some true := H
      have A45 := Aside0.mk A450
      clear A450
      have HE_ := Aside0.mk (Option.some.inj H)
      clear H
      go_wp2_with (first | ((with_reducible refine gate_callee (f := 23) rfl ?_); refine goesL_ (some 75) rfl rfl Tryd.func23 (by kernel_rfl) rfl #[] rfl (by (try simp only [List.map_toArray, List.map_cons, List.map_nil]); first | done | rfl | (simp only [List.length_drop, List.length_take]; rfl)) ?_; (with_reducible refine (skewbaldlaw01_sawn.calls  t610 _ ?side1 A45.out).mono ?_); (case side1 => exact Glob.below HGL.out bl); rintro e w46 ⟨rfl, hb⟩; refine ⟨_, rfl, ?_⟩; have n0_ := Aside0.mk (blk_below (g := gb596) (o := .cells #[.slice A0_0 l0_0.length c0_0, .slice A0_1 l0_1.length c0_1] 25 (0, 0)) bk hb); have n1_ := Aside0.mk (below_step bl hb); clear BK596; clear HB; have BK596 := n0_; have HB := n1_; clear n0_ n1_; (try clear hb); (try clear hb2); (try clear hk); (try clear hi)))
      go_ret
      exact ⟨by first | rfl | (rw [HE_.out]; done) | (simp [HE_.out]; done) | (simp [errW_none, errW_some] <;> rfl) | (simp only [← hji5, ← hji6]; first | rfl | (simp [errW_none, errW_some] <;> rfl)) | (simp [*, errW_none, errW_some] <;> rfl), bl⟩
 ·replace c4 := Bool.eq_false_iff.mpr c4
  subst c4
  have H1 : (if t598 = 10 then (if t597 = 0 then ((skewbaldlaw01_sawn.f).bind fun t600 => (some t600)) else (some false)) else (some false)) = some true := by rw [if_neg (show ¬ (false = true) by decide)] at H; exact H
  clear H
  have H := H1
  clear H1
  by_cases c47 : t598 = 10
  ·rw [if_pos c47] at H
   have c47b0 : (t598 == 10) = true := beq_iff_eq.mpr c47
   have c47b1 : (t598 != 10) = false := bne_eq_false_iff_eq.mpr c47
   clear c47
   by_cases c48 : t597 = 0
   ·rw [if_pos c48] at H
    have c48b0 : (t597 == 0) = true := beq_iff_eq.mpr c48
    have c48b1 : (t597 != 0) = false := bne_eq_false_iff_eq.mpr c48
    clear c48
    replace H := Option.bind_eq_some_iff.mp H
    obtain ⟨t600, A490, H⟩ := H
    replace H : (some t600) = some true := H
    have A49 := Aside0.mk A490
    clear A490
    have HE_ := Aside0.mk (Option.some.inj H)
    clear H
    go_enter Tryd.func11, Tryd.ntmps11
    go_wp2_with (first | ((with_reducible refine gate_dst (N := 1) rfl ?_); (try (refine gate_guard (by rfl) ?_; dsimp only)); refine box_event ?hg (N := 1) ?hd (cs := #[.slice A0_0 l0_0.length c0_0, .slice A0_1 l0_1.length c0_1]) (t := 25) ?hr ?_; (case hd => rfl); (case hg => rfl); (case hr => first | (go_simp; done) | (go_simp; rfl)); intro gb596 hg w50 hbox hb; have n0_ := Aside0.mk (below_step bl hb); have n1_ := Aside0.mk (hbox); have n2_ := Aside0.mk ((by rw [hg]; exact (below_size bl) : w.heap.size ≤ gb596)); have n3_ := Aside0.mk ((by rw [hg]; exact (below_size bl) : w.heap.size ≤ gb596)); clear HB; have HB := n0_; have BK596 := n1_; have GW596 := n2_; have GE596 := n3_; clear n0_ n1_ n2_ n3_; clear hb hbox hg; have hcz51_0 : w50.cell? ⟨gb596, 0, none⟩ = some (.slice A0_0 l0_0.length c0_0) := (blk_cell BK596.out 0).trans rfl; have hcz51_1 : w50.cell? ⟨gb596, 1, none⟩ = some (.slice A0_1 l0_1.length c0_1) := (blk_cell BK596.out 1).trans rfl; have hfz51_0 := blk_frozen BK596.out 0; have hfz51_1 := blk_frozen BK596.out 1) | ((with_reducible refine gate_callee (f := 30) rfl ?_); refine goesL_ (some 13) rfl rfl Tryd.func30 (by kernel_rfl) rfl #[.agg #[.slice A0_0 l0_0.length c0_0, .slice A0_1 l0_1.length c0_1]] rfl (by (try simp only [List.map_toArray, List.map_cons, List.map_nil]); first | done | rfl | (simp only [List.length_drop, List.length_take]; rfl)) ?_; (with_reducible refine (plank_Lacks.calls _ _ l0_0 _ _ l0_1 t597 t598 _ ?side1 ?side2 ?side3 ?side4 ?side5 A2.out).mono ?_); (case side1 => exact cl); (case side2 => exact HC0_0.out); (case side3 => exact cl); (case side4 => exact HC0_1.out); (case side5 => exact Glob.below HGL.out bl); rintro e w52 ⟨rfl, hb⟩; refine ⟨_, rfl, ?_⟩; have n0_ := Aside0.mk (blk_below (g := gb596) (o := .cells #[.slice A0_0 l0_0.length c0_0, .slice A0_1 l0_1.length c0_1] 25 (0, 0)) bk hb); have n1_ := Aside0.mk (below_step bl hb); clear BK596; clear HB; have BK596 := n0_; have HB := n1_; clear n0_ n1_; (try clear hb); (try clear hb2); (try clear hk); (try clear hi); have hcz53_0 : w52.cell? ⟨gb596, 0, none⟩ = some (.slice A0_0 l0_0.length c0_0) := (blk_cell BK596.out 0).trans rfl; have hcz53_1 : w52.cell? ⟨gb596, 1, none⟩ = some (.slice A0_1 l0_1.length c0_1) := (blk_cell BK596.out 1).trans rfl; have hfz53_0 := blk_frozen BK596.out 0; have hfz53_1 := blk_frozen BK596.out 1) | ((with_reducible refine gate_callee (f := 34) rfl ?_); refine goesL_ (some 17) rfl rfl Tryd.func34 (by kernel_rfl) rfl #[.agg #[.slice A0_0 l0_0.length c0_0, .slice A0_1 l0_1.length c0_1]] rfl (by (try simp only [List.map_toArray, List.map_cons, List.map_nil]); first | done | rfl | (simp only [List.length_drop, List.length_take]; rfl)) ?_; (with_reducible refine (skewbaldlaw01_sound.calls k _ _ l0_0 _ _ l0_1 false _ ?side1 ?side2 ?side3 ?side4 A3.out).mono ?_); (case side1 => exact cl); (case side2 => exact HC0_0.out); (case side3 => exact cl); (case side4 => exact HC0_1.out); rintro e w54 ⟨rfl, hb⟩; refine ⟨_, rfl, ?_⟩; have n0_ := Aside0.mk (blk_below (g := gb596) (o := .cells #[.slice A0_0 l0_0.length c0_0, .slice A0_1 l0_1.length c0_1] 25 (0, 0)) bk hb); have n1_ := Aside0.mk (below_step bl hb); clear BK596; clear HB; have BK596 := n0_; have HB := n1_; clear n0_ n1_; (try clear hb); (try clear hb2); (try clear hk); (try clear hi)) | (go_at_call 23; (with_reducible refine (skewbaldlaw01_sawn.calls  t600 _ ?side1 A49.out).mono ?_); (case side1 => exact Glob.below HGL.out bl); rintro e w55 ⟨rfl, hb⟩; have n0_ := Aside0.mk (blk_below (g := gb596) (o := .cells #[.slice A0_0 l0_0.length c0_0, .slice A0_1 l0_1.length c0_1] 25 (0, 0)) bk hb); have n1_ := Aside0.mk (below_step bl hb); clear BK596; clear HB; have BK596 := n0_; have HB := n1_; clear n0_ n1_; (try clear hb); (try clear hb2); (try clear hk); (try clear hi)))
    go_ret
    exact ⟨by first | rfl | (rw [HE_.out]; done) | (simp [HE_.out]; done) | (simp [errW_none, errW_some] <;> rfl) | (simp [*, errW_none, errW_some] <;> rfl), bl⟩
   ·rw [if_neg c48] at H
    have c48b0 : (t597 == 0) = false := beq_eq_false_iff_ne.mpr c48
    have c48b1 : (t597 != 0) = true := bne_iff_ne.mpr c48
    exact absurd H (by simp)
  ·rw [if_neg c47] at H
   have c47b0 : (t598 == 10) = false := beq_eq_false_iff_ne.mpr c47
   have c47b1 : (t598 != 10) = true := bne_iff_ne.mpr c47
   exact absurd H (by simp)
end Go.Proofs.YtekjlpldooihhaaDoor.PT
namespace Go.Proofs.YtekjlpldooihhaaDoor.PT
open Go.Proofs.YtekjlpldooihhaaDoorSh
open Go.Proofs.YtekjlpldooihhaaDoor.PA (S48 S50 S60 at_L2 at_L4 at_T48 at_T50 at_T60 errW errW_none errW_some k48 k48_mk k48_mkM k48_open k48_openM k50 k50_mk k50_mkM k50_open k50_openM k60 k60_mk k60_mkM k60_open k60_openM rd_L2 rd_L4 rd_T48 rd_T50 rd_T60 z48 z50 z60)
open Go.Proofs.YtekjlpldooihhaaDoorP Go.Proofs.YtekjlpldooihhaaDoorK
open Go.RowKit Go.Proofs.YtekjlpldooihhaaDoorW.PrintWords Go.Proofs.YtekjlpldooihhaaDoorW.PrintLast Go.Proofs.YtekjlpldooihhaaDoorW.PrintMore
attribute [local go_sem] max2_int min2_int max_two min_two max_three min_three max_four min_four   -- for this text's walks alone
set_option linter.unusedVariables false
set_option linter.unusedSimpArgs false
mutual
def skewbaldref01_Check.j0 : Nat → Bool → List (S48) → List (S50) → Option (Int)
 | 0, _, _, _ => none
 | k + 1, x3, x106000, x106001 => skewbaldref01_Check.l0 k x3 0 x106000 x106001
def skewbaldref01_Check.l0 : Nat → Bool → Int → List (S48) → List (S50) → Option (Int)
 | 0, _, _, _, _ => none
 | k + 1, x3, x4, x106000, x106001 => if x3 = true then (skewbaldref01_Check.j2 k x3 x4 (decide (x4 < (x106000.length : Int))) x106000 x106001) else (skewbaldref01_Check.j2 k x3 x4 false x106000 x106001)
def skewbaldref01_Check.j2 : Nat → Bool → Int → Bool → List (S48) → List (S50) → Option (Int)
 | 0, _, _, _, _, _ => none
 | k + 1, x3, x4, x26, x106000, x106001 => if x26 = true then (if 0 ≤ x4 then (if x4 < (x106000.length : Int) then ((skewbaldref00_In.f ((rd_T48 x106000 x4).f0) 1 16).bind fun t110 => (if t110 = true then (skewbaldref01_Check.j3 k (decide ((((rd_T48 x106000 x4).f1).length : Int) ≤ 3)) x4 x106000 x106001 ((rd_T48 x106000 x4).f0) ((rd_T48 x106000 x4).f1)) else (skewbaldref01_Check.j3 k false x4 x106000 x106001 ((rd_T48 x106000 x4).f0) ((rd_T48 x106000 x4).f1)))) else (none)) else (none)) else (skewbaldref01_Check.l2 k x3 0 x106000 x106001)
def skewbaldref01_Check.j3 : Nat → Bool → Int → List (S48) → List (S50) → Int → List (S60) → Option (Int)
 | 0, _, _, _, _, _, _ => none
 | k + 1, x3, x4, x106000, x106001, x110000, x110001 => skewbaldref01_Check.l1 k x3 x4 0 x106000 x106001 x110000 x110001
def skewbaldref01_Check.l1 : Nat → Bool → Int → Int → List (S48) → List (S50) → Int → List (S60) → Option (Int)
 | 0, _, _, _, _, _, _, _ => none
 | k + 1, x3, x4, x6, x106000, x106001, x110000, x110001 => if x3 = true then (if x6 < (x110001.length : Int) then (if 0 ≤ x6 then ((skewbaldref00_Ordered.f ((rd_T60 x110001 x6).f0) ((rd_T60 x110001 x6).f1) 0 (wrap64 (x110000 - 1))).bind fun t112 => (if t112 = true then (skewbaldref01_Check.l1 k (decide ((wrap64 (((rd_T60 x110001 x6).f1) - ((rd_T60 x110001 x6).f0))) ≤ 6)) x4 (wrap64 (x6 + 1)) x106000 x106001 x110000 x110001) else (skewbaldref01_Check.l1 k false x4 (wrap64 (x6 + 1)) x106000 x106001 x110000 x110001))) else (none)) else (skewbaldref01_Check.l0 k x3 (wrap64 (x4 + 1)) x106000 x106001)) else (skewbaldref01_Check.l0 k x3 (wrap64 (x4 + 1)) x106000 x106001)
def skewbaldref01_Check.l2 : Nat → Bool → Int → List (S48) → List (S50) → Option (Int)
 | 0, _, _, _, _ => none
 | k + 1, x3, x7, x106000, x106001 => if x3 = true then (skewbaldref01_Check.j6 k x3 x7 (decide (x7 < (x106001.length : Int))) x106000 x106001) else (skewbaldref01_Check.j6 k x3 x7 false x106000 x106001)
def skewbaldref01_Check.j6 : Nat → Bool → Int → Bool → List (S48) → List (S50) → Option (Int)
 | 0, _, _, _, _, _ => none
 | k + 1, x3, x7, x85, x106000, x106001 => if x85 = true then (if 0 ≤ x7 then (if x7 < (x106001.length : Int) then ((skewbaldref00_In.f ((rd_T50 x106001 x7).f0) 1 12).bind fun t117 => (if t117 = true then (if (((rd_T50 x106001 x7).f1).length : Int) ≤ 3 then ((skewbaldref00_Grows.f k ((rd_T50 x106001 x7).f1) ((rd_T50 x106001 x7).f0)).bind fun t118 => (skewbaldref01_Check.l2 k t118 (wrap64 (x7 + 1)) x106000 x106001)) else (skewbaldref01_Check.l2 k false (wrap64 (x7 + 1)) x106000 x106001)) else (skewbaldref01_Check.l2 k false (wrap64 (x7 + 1)) x106000 x106001))) else (none)) else (none)) else (if x3 = true then (some 0) else (some 10))
end
def skewbaldref01_Check.f (k : Nat) (l0_0 : List (S48)) (l0_1 : List (S50)) : Option (Int) := (skewbaldref00_In.f (l0_0.length : Int) 1 3).bind fun t106 => (if t106 = true then ((skewbaldref00_In.f (l0_1.length : Int) 1 5).bind fun t107 => (skewbaldref01_Check.j0 k t107 l0_0 l0_1)) else (skewbaldref01_Check.j0 k false l0_0 l0_1))
def skewbaldref01_Check.T10 : Bool × List (List Nat × List Nat) := (true, [([], []), ([0], [0]), ([], []), ([1, 2], [1, 2]), ([3], [3]), ([], []), ([5], [5]), ([6], [6]), ([4, 7], [4, 7]), ([8, 8], [8]), ([9], [9]), ([10, 9], [9, 10]), ([9], [9]), ([11, 12, 9], [9, 11, 12]), ([13, 9], [9, 13]), ([14, 9], [9, 14]), ([9], [9]), ([16, 9], [9, 16]), ([9], [9]), ([17, 18, 9], [9, 17, 18]), ([19, 9], [9, 19]), ([20, 9], [9, 20]), ([15, 21, 9], [9, 15, 21]), ([22, 9], [9, 22]), ([9, 23], [9, 23]), ([24, 9, 0, 1, 2, 3, 4, 5, 6, 7, 8, 9, 10, 11, 12, 13, 14, 15, 16, 17, 18, 19, 20, 21, 22, 23, 24], [24])])
def skewbaldref01_Check.B10 : List Nat := [0, 1, 0, 7, 15, 0, 32, 96, 255, 511, 1023, 2047, 1023, 8191, 16383, 32767, 1023, 66559, 1023, 459775, 984063, 2032639, 4194303, 8388607, 16777215, 33554431]
theorem skewbaldref01_Check.tab10 : rtab .any (opsOf Tryd.f19 10) = skewbaldref01_Check.T10 := by kernel_rfl
theorem skewbaldref01_Check.bits10 : waitsOk skewbaldref01_Check.T10.2 skewbaldref01_Check.B10 = true := by kernel_rfl
end Go.Proofs.YtekjlpldooihhaaDoor.PT
namespace Go.Proofs.YtekjlpldooihhaaDoor.PT
open Go.Proofs.YtekjlpldooihhaaDoorSh
open Go.Proofs.YtekjlpldooihhaaDoor.PA (S48 S50 S60 at_L2 at_L4 at_T48 at_T50 at_T60 errW errW_none errW_some k48 k48_mk k48_mkM k48_open k48_openM k50 k50_mk k50_mkM k50_open k50_openM k60 k60_mk k60_mkM k60_open k60_openM rd_L2 rd_L4 rd_T48 rd_T50 rd_T60 z48 z50 z60)
open Go.Proofs.YtekjlpldooihhaaDoorP Go.Proofs.YtekjlpldooihhaaDoorK
open Go.RowKit Go.Proofs.YtekjlpldooihhaaDoorW.PrintWords Go.Proofs.YtekjlpldooihhaaDoorW.PrintLast Go.Proofs.YtekjlpldooihhaaDoorW.PrintMore
attribute [local go_sem] max2_int min2_int max_two min_two max_three min_three max_four min_four   -- for this text's walks alone
set_option linter.unusedVariables false
set_option linter.unusedSimpArgs false
def skewbaldref00_Round.f (a0 : Int) (a1 : Int) : Option (Int) := if a1 < 1 then (some 0) else (if a1 = 0 then (none) else (if (Int.tmod a0 a1) < 0 then (some (wrap64 ((Int.tmod a0 a1) + a1))) else (some (Int.tmod a0 a1))))
set_option maxHeartbeats 8000000 in
set_option maxRecDepth 100000 in
theorem skewbaldref00_Round.calls (a0 : Int) (a1 : Int) (r : Int) (w : World) (h : skewbaldref00_Round.f a0 a1 = some r) :
  Calls Tryd.prog 35 #[.int .i64 a0, .int .i64 a1] w fun e w' => e = .returned (.int .i64 r) ∧ Drawn0 w w' := by
 have H : (if a1 < 1 then (some 0) else (if a1 = 0 then (none) else (if (Int.tmod a0 a1) < 0 then (some (wrap64 ((Int.tmod a0 a1) + a1))) else (some (Int.tmod a0 a1))))) = some r := h
 clear h
 by_cases c3 : a1 < 1
 ·rw [if_pos c3] at H
  have c3b0 : decide (a1 < 1) = true := decide_eq_true c3
  clear c3
  obtain rfl := Option.some.inj H
  go_enter Tryd.func35, Tryd.ntmps35
  go_wp2
  go_ret
  exact ⟨by first | rfl | (simp; done) | (simp [*]; done), by repeat (first | exact Drawn0.refl _ | apply Drawn0.step)⟩
 ·rw [if_neg c3] at H
  have c3b0 : decide (a1 < 1) = false := decide_eq_false c3
  clear c3
  by_cases c4 : a1 = 0
  ·rw [if_pos c4] at H
   exact absurd H (by simp)
  ·rw [if_neg c4] at H
   have c4b0 : (a1 == 0) = false := beq_eq_false_iff_ne.mpr c4
   have c4b1 : (a1 != 0) = true := bne_iff_ne.mpr c4
   by_cases c5 : (Int.tmod a0 a1) < 0
   ·rw [if_pos c5] at H
    have c5b0 : decide ((Int.tmod a0 a1) < 0) = true := decide_eq_true c5
    clear c5
    obtain rfl := Option.some.inj H
    go_enter Tryd.func35, Tryd.ntmps35
    go_wp2
    go_ret
    exact ⟨by first | rfl | (simp; done) | (simp [*]; done), by repeat (first | exact Drawn0.refl _ | apply Drawn0.step)⟩
   ·rw [if_neg c5] at H
    have c5b0 : decide ((Int.tmod a0 a1) < 0) = false := decide_eq_false c5
    clear c5
    obtain rfl := Option.some.inj H
    go_enter Tryd.func35, Tryd.ntmps35
    go_wp2
    go_ret
    exact ⟨by first | rfl | (simp; done) | (simp [*]; done), by repeat (first | exact Drawn0.refl _ | apply Drawn0.step)⟩
def skewbaldlaw01_truly.T5 : Bool × List (List Nat × List Nat) := (true, [([], []), ([], []), ([1], [1]), ([], []), ([2, 3], [2, 3]), ([4], [4]), ([], []), ([], []), ([6, 7], [6, 7]), ([5, 8, 8], [5, 8]), ([9], [9]), ([0, 10, 9], [0, 10]), ([11, 11, 0, 1, 2, 3, 4, 5, 6, 7, 8, 9, 10, 11], [0, 11])])
def skewbaldlaw01_truly.B5 : List Nat := [0, 0, 2, 0, 14, 30, 0, 0, 192, 510, 1022, 2047, 4095]
theorem skewbaldlaw01_truly.tab5 : rtab .any (opsOf Tryd.f36 5) = skewbaldlaw01_truly.T5 := by kernel_rfl
theorem skewbaldlaw01_truly.bits5 : waitsOk skewbaldlaw01_truly.T5.2 skewbaldlaw01_truly.B5 = true := by kernel_rfl
end Go.Proofs.YtekjlpldooihhaaDoor.PT
namespace Go.Proofs.YtekjlpldooihhaaDoor.PT
open Go.Proofs.YtekjlpldooihhaaDoorSh
open Go.Proofs.YtekjlpldooihhaaDoor.PA (S48 S50 S60 at_L2 at_L4 at_T48 at_T50 at_T60 errW errW_none errW_some k48 k48_mk k48_mkM k48_open k48_openM k50 k50_mk k50_mkM k50_open k50_openM k60 k60_mk k60_mkM k60_open k60_openM rd_L2 rd_L4 rd_T48 rd_T50 rd_T60 z48 z50 z60)
open Go.Proofs.YtekjlpldooihhaaDoorP Go.Proofs.YtekjlpldooihhaaDoorK
open Go.RowKit Go.Proofs.YtekjlpldooihhaaDoorW.PrintWords Go.Proofs.YtekjlpldooihhaaDoorW.PrintLast Go.Proofs.YtekjlpldooihhaaDoorW.PrintMore
attribute [local go_sem] max2_int min2_int max_two min_two max_three min_three max_four min_four   -- for this text's walks alone
set_option linter.unusedVariables false
set_option linter.unusedSimpArgs false
mutual
def skewbaldlaw01_shared.l0 : Nat → List Int → Int → Int → List (S48) → List (S50) → Option (Bool)
 | 0, _, _, _, _, _ => none
 | k + 1, x1, x2, x7, x541000, x541001 => if x7 ≥ 0 then (if (Go.bits .and .i64 x7 x2) = x7 then (if 0 < (x1.length : Int) then ((skewbaldref00_List.f k x7 (x541001.length : Int)).bind fun t542 => ((plank_Lay.f x541000 x541001 (rd x1 0) t542).bind fun bt545 => (if bt545.2 = 0 then (if 1 ≤ (x1.length : Int) then ((skewbaldlaw01_shared.f k x541000 x541001 (x1.drop 1) (wrap64 (x2 - x7))).bind fun t550 => (if t550 = true then (some true) else (skewbaldlaw01_shared.l0 k x1 x2 (wrap64 (x7 - 1)) x541000 x541001))) else (none)) else (skewbaldlaw01_shared.l0 k x1 x2 (wrap64 (x7 - 1)) x541000 x541001)))) else (none)) else (skewbaldlaw01_shared.l0 k x1 x2 (wrap64 (x7 - 1)) x541000 x541001)) else (some false)
def skewbaldlaw01_shared.f : Nat → List (S48) → List (S50) → List Int → Int → Option (Bool)
 | 0, _, _, _, _ => none
 | k + 1, l0_0, l0_1, l1, a2 => if (l1.length : Int) = 0 then (some (a2 == 0)) else (skewbaldlaw01_shared.l0 k l1 a2 a2 l0_0 l0_1)
end
end Go.Proofs.YtekjlpldooihhaaDoor.PT
namespace Go.Proofs.YtekjlpldooihhaaDoor.PT
open Go.Proofs.YtekjlpldooihhaaDoorSh
open Go.Proofs.YtekjlpldooihhaaDoor.PA (S48 S50 S60 at_L2 at_L4 at_T48 at_T50 at_T60 errW errW_none errW_some k48 k48_mk k48_mkM k48_open k48_openM k50 k50_mk k50_mkM k50_open k50_openM k60 k60_mk k60_mkM k60_open k60_openM rd_L2 rd_L4 rd_T48 rd_T50 rd_T60 z48 z50 z60)
open Go.Proofs.YtekjlpldooihhaaDoorP Go.Proofs.YtekjlpldooihhaaDoorK
open Go.RowKit Go.Proofs.YtekjlpldooihhaaDoorW.PrintWords Go.Proofs.YtekjlpldooihhaaDoorW.PrintLast Go.Proofs.YtekjlpldooihhaaDoorW.PrintMore
attribute [local go_sem] max2_int min2_int max_two min_two max_three min_three max_four min_four   -- for this text's walks alone
set_option linter.unusedVariables false
set_option linter.unusedSimpArgs false
def skewbaldlaw01_PlankFewest.j0 : Nat → List Int → Int → Bool → List (S48) → List (S50) → Option (Bool)
 | 0, _, _, _, _, _ => none
 | k + 1, x5, x7, x92, x552000, x552001 => if x92 = true then (some false) else ((skewbaldlaw01_shared.f k x552000 x552001 x5 x7).bind fun t567 => (if t567 = true then ((skewbaldlaw01_sawn.f).bind fun t568 => (some t568)) else (some false)))
def skewbaldlaw01_PlankFewest.f (k : Nat) (l0_0 : List (S48)) (l0_1 : List (S50)) (a1 : Int) : Option (Bool) := (plank_Fewest.f l0_0 l0_1).bind fun bt552 => ((skewbaldlaw01_sound.f k l0_0 l0_1).bind fun t556 => (if t556 = true then ((skewbaldref00_Round.f a1 (shl .i64 1 (l0_0.length : Int))).bind fun t558 => ((skewbaldlaw01_enough.f k l0_0 l0_1 t558 (wrap64 ((shl .i64 1 (l0_1.length : Int)) - 1))).bind fun bt559 => (if bt552.2 = 0 then (if bt559.2 = true then ((skewbaldref00_Grows.f k bt552.1 (l0_0.length : Int)).bind fun t562 => (if t562 = true then (if (bt552.1.length : Int) = 0 then (skewbaldlaw01_PlankFewest.j0 k bt552.1 (wrap64 ((shl .i64 1 (l0_1.length : Int)) - 1)) true l0_0 l0_1) else (if bt559.1 = true then ((skewbaldref00_List.f k t558 (l0_0.length : Int)).bind fun t563 => ((skewbaldref00_Shorter.f k t563 bt552.1).bind fun t566 => (skewbaldlaw01_PlankFewest.j0 k bt552.1 (wrap64 ((shl .i64 1 (l0_1.length : Int)) - 1)) t566 l0_0 l0_1))) else (skewbaldlaw01_PlankFewest.j0 k bt552.1 (wrap64 ((shl .i64 1 (l0_1.length : Int)) - 1)) false l0_0 l0_1))) else (skewbaldlaw01_PlankFewest.j0 k bt552.1 (wrap64 ((shl .i64 1 (l0_1.length : Int)) - 1)) true l0_0 l0_1))) else (skewbaldlaw01_PlankFewest.j0 k bt552.1 (wrap64 ((shl .i64 1 (l0_1.length : Int)) - 1)) true l0_0 l0_1)) else (if bt552.2 = 4 then (if (bt552.1.length : Int) = 0 then (if bt559.2 = true then (if bt559.1 = true then (some false) else ((skewbaldlaw01_sawn.f).bind fun t561 => (some t561))) else (some false)) else (some false)) else (some false))))) else (if bt552.2 = 10 then (if (bt552.1.length : Int) = 0 then ((skewbaldlaw01_sawn.f).bind fun t557 => (some t557)) else (some false)) else (some false))))
end Go.Proofs.YtekjlpldooihhaaDoor.PT
namespace Go.Proofs.YtekjlpldooihhaaDoor.PT
open Go.Proofs.YtekjlpldooihhaaDoorSh
open Go.Proofs.YtekjlpldooihhaaDoor.PA (S48 S50 S60 at_L2 at_L4 at_T48 at_T50 at_T60 errW errW_none errW_some k48 k48_mk k48_mkM k48_open k48_openM k50 k50_mk k50_mkM k50_open k50_openM k60 k60_mk k60_mkM k60_open k60_openM rd_L2 rd_L4 rd_T48 rd_T50 rd_T60 z48 z50 z60)
open Go.Proofs.YtekjlpldooihhaaDoorP Go.Proofs.YtekjlpldooihhaaDoorK
open Go.RowKit Go.Proofs.YtekjlpldooihhaaDoorW.PrintWords Go.Proofs.YtekjlpldooihhaaDoorW.PrintLast Go.Proofs.YtekjlpldooihhaaDoorW.PrintMore
attribute [local go_sem] max2_int min2_int max_two min_two max_three min_three max_four min_four   -- for this text's walks alone
set_option linter.unusedVariables false
set_option linter.unusedSimpArgs false
def skewbaldref01_ends.T10 : Bool × List (List Nat × List Nat) := (true, [([], []), ([], []), ([], []), ([2], [2]), ([1, 3], [1, 3]), ([0, 4], [0, 4]), ([5], [5]), ([], []), ([], []), ([], []), ([7, 8, 9], [7, 8, 9]), ([6, 10, 0, 1, 2, 3, 4, 5, 6], [6]), ([10, 11, 0, 1, 2, 3, 4, 5, 6, 7, 8, 9, 10, 11], [10])])
def skewbaldref01_ends.B10 : List Nat := [0, 0, 0, 4, 14, 31, 63, 0, 0, 0, 896, 2047, 4095]
theorem skewbaldref01_ends.tab10 : rtab .any (opsOf Tryd.f77 10) = skewbaldref01_ends.T10 := by kernel_rfl
theorem skewbaldref01_ends.bits10 : waitsOk skewbaldref01_ends.T10.2 skewbaldref01_ends.B10 = true := by kernel_rfl
end Go.Proofs.YtekjlpldooihhaaDoor.PT
namespace Go.Proofs.YtekjlpldooihhaaDoor.PT
open Go.Proofs.YtekjlpldooihhaaDoor.PA (S48 S50 S60 at_L2 at_L4 at_T48 at_T50 at_T60 errW errW_none errW_some k48 k48_mk k48_mkM k48_open k48_openM k50 k50_mk k50_mkM k50_open k50_openM k60 k60_mk k60_mkM k60_open k60_openM rd_L2 rd_L4 rd_T48 rd_T50 rd_T60 z48 z50 z60)
open Go.Proofs.YtekjlpldooihhaaDoorP Go.Proofs.YtekjlpldooihhaaDoorK
open Go.RowKit Go.Proofs.YtekjlpldooihhaaDoorW.PrintWords Go.Proofs.YtekjlpldooihhaaDoorW.PrintLast Go.Proofs.YtekjlpldooihhaaDoorW.PrintMore
attribute [local go_sem] max2_int min2_int max_two min_two max_three min_three max_four min_four   -- for this text's walks alone
set_option linter.unusedVariables false
set_option linter.unusedSimpArgs false
def skewbaldref00_Equal.l0 : Nat → List Int → List Int → Bool → Int → Option (Bool)
 | 0, _, _, _, _ => none
 | k + 1, x0, x1, x5, x6 => if x5 = true then (if x6 < (x0.length : Int) then (if 0 ≤ x6 then (if x6 < (x1.length : Int) then (skewbaldref00_Equal.l0 k x0 x1 ((rd x0 x6) == (rd x1 x6)) (wrap64 (x6 + 1))) else (none)) else (none)) else (some x5)) else (some x5)
def skewbaldref00_Equal.f (k : Nat) (l0 : List Int) (l1 : List Int) : Option (Bool) := skewbaldref00_Equal.l0 k l0 l1 ((l0.length : Int) == (l1.length : Int)) 0
set_option maxHeartbeats 8000000 in
set_option maxRecDepth 100000 in
theorem skewbaldref00_Equal.calls (k : Nat) (A0 : Option Addr) (c0 : Nat) (l0 : List Int) (A1 : Option Addr) (c1 : Nat) (l1 : List Int) (r : Bool) (w : World) (hr0 : Kd.C (Kd.int .i64) w A0 l0.length l0) (hc0 : l0.length ≤ c0) (hr1 : Kd.C (Kd.int .i64) w A1 l1.length l1) (hc1 : l1.length ≤ c1) (h : skewbaldref00_Equal.f k l0 l1 = some r) :
  Calls Tryd.prog 22 #[.slice A0 l0.length c0, .slice A1 l1.length c1] w fun e w' => e = .returned (.bool r) ∧ Drawn0 w w' := by
 have HR0 := Aside0.mk hr0
 have HC0 := Aside0.mk hc0
 clear hr0 hc0
 have HR1 := Aside0.mk hr1
 have HC1 := Aside0.mk hc1
 clear hr1 hc1
 have H : (skewbaldref00_Equal.l0 k l0 l1 ((l0.length : Int) == (l1.length : Int)) 0) = some r := h
 clear h
 have H' := Aside0.mk H
 clear H
 go_enter Tryd.func22, Tryd.ntmps22
 go_wp2
 repeat (go_quiet (fail); try go_wp2)
 go_loopg [5, 6] k (fun kq v5 v6 w' => ∃ (x5_1 : Bool) (x6_1 : Int), v5 = .bool x5_1 ∧ v6 = .int .i64 x6_1 ∧ Aside0 (skewbaldref00_Equal.l0 kq l0 l1 x5_1 x6_1 = some r) ∧ Aside0 (kq ≤ k) ∧ Drawn0 w w')
 case atStart => exact ⟨(((l0.length : Int) == (l1.length : Int))), (0), (by first | rfl | (simp; done) | (simp [*]; done)), (by first | rfl | (simp; done) | (simp [*]; done)), H', ⟨Nat.le_refl _⟩, by repeat (first | exact Drawn0.refl _ | apply Drawn0.step)⟩
 case round =>
  clear H'
  try clear c1
  try clear c2
  try clear p2
  obtain ⟨x5_1, x6_1, rfl, rfl, HA, HK1, ⟨m1, rfl⟩⟩ := hrel
  cases gk with
  | zero => exact absurd HA.out (by simp [skewbaldref00_Equal.l0])
  | succ k1 =>
   have H := HA.out
   clear HA
   simp only [skewbaldref00_Equal.l0] at H
   by_cases c3 : x5_1 = true
   ·subst c3
    have H1 : (if x6_1 < (l0.length : Int) then (if 0 ≤ x6_1 then (if x6_1 < (l1.length : Int) then (skewbaldref00_Equal.l0 k1 l0 l1 ((rd l0 x6_1) == (rd l1 x6_1)) (wrap64 (x6_1 + 1))) else (none)) else (none)) else (some true)) = some r := by rw [if_pos rfl] at H; exact H
    clear H
    have H := H1
    clear H1
    by_cases c4 : x6_1 < (l0.length : Int)
    ·rw [if_pos c4] at H
     have c4b0 : decide (x6_1 < (l0.length : Int)) = true := decide_eq_true c4
     clear c4
     by_cases c5 : 0 ≤ x6_1
     ·rw [if_pos c5] at H
      have c5b0 : decide (0 ≤ x6_1) = true := decide_eq_true c5
      clear c5
      by_cases c6 : x6_1 < (l1.length : Int)
      ·rw [if_pos c6] at H
       have c6b0 : decide (x6_1 < (l1.length : Int)) = true := decide_eq_true c6
       clear c6
       have H' := Aside0.mk H
       clear H
       have p194 : 0 ≤ (x6_1 : Int) := of_decide_eq_true (by first | (with_reducible assumption) | assumption)
       have q194 : x6_1 < (l0.length : Int) := of_decide_eq_true (by first | (with_reducible assumption) | assumption)
       obtain ⟨ad194, e194, hx194_0⟩ := Kd.at_int HR0.out x6_1 p194 q194
       cases e194
       replace p194 := eq_true p194
       replace q194 := eq_true q194
       have p195 : 0 ≤ (x6_1 : Int) := of_decide_eq_true (by first | (with_reducible assumption) | assumption)
       have q195 : x6_1 < (l1.length : Int) := of_decide_eq_true (by first | (with_reducible assumption) | assumption)
       obtain ⟨ad195, e195, hx195_0⟩ := Kd.at_int HR1.out x6_1 p195 q195
       cases e195
       replace p195 := eq_true p195
       replace q195 := eq_true q195
       go_wp2
       repeat (go_quiet (fail); try go_wp2)
       go_roundg k1
       case measure => have := HK1.out; omega
       case rel => exact ⟨(((rd l0 x6_1) == (rd l1 x6_1))), (wrap64 (x6_1 + 1)), (by first | rfl | (simp; done) | (simp [*]; done)), (by first | rfl | (simp; done) | (simp [*]; done)), H', ⟨by have := HK1.out; omega⟩, by repeat (first | exact Drawn0.refl _ | apply Drawn0.step)⟩
      ·rw [if_neg c6] at H
       exact absurd H (by simp)
     ·rw [if_neg c5] at H
      exact absurd H (by simp)
    ·rw [if_neg c4] at H
     have c4b0 : decide (x6_1 < (l0.length : Int)) = false := decide_eq_false c4
     clear c4
     obtain rfl := Option.some.inj H
     go_wp2
     repeat (go_quiet (fail); try go_wp2)
     go_ret
     exact ⟨by first | rfl | (simp; done) | (simp [*]; done), by repeat (first | exact Drawn0.refl _ | apply Drawn0.step)⟩
   ·replace c3 := Bool.eq_false_iff.mpr c3
    subst c3
    have H1 : (some false) = some r := by rw [if_neg (show ¬ (false = true) by decide)] at H; exact H
    clear H
    have H := H1
    clear H1
    obtain rfl := Option.some.inj H
    go_wp2
    repeat (go_quiet (fail); try go_wp2)
    go_ret
    exact ⟨by first | rfl | (simp; done) | (simp [*]; done), by repeat (first | exact Drawn0.refl _ | apply Drawn0.step)⟩
end Go.Proofs.YtekjlpldooihhaaDoor.PT
namespace Go.Proofs.YtekjlpldooihhaaDoorP
open Go.RowKit Go.Proofs.YtekjlpldooihhaaDoorW.PrintWords Go.Proofs.YtekjlpldooihhaaDoorH Go.Proofs.YtekjlpldooihhaaDoorEv Go.Proofs.YtekjlpldooihhaaDoor.PA
set_option linter.unusedVariables false
set_option linter.unusedSimpArgs false
def lenQ (Q : List S50) (p : Nat) : Nat := (Q.getD p z50).f0.toNat
def Apart (Q : List S50) (pos : Nat → Nat) (p q : Nat) : Prop := pos p + lenQ Q p ≤ pos q ∨ pos q + lenQ Q q ≤ pos p
theorem Apart.symm {Q : List S50} {pos : Nat → Nat} {p q : Nat} (h : Apart Q pos p q) : Apart Q pos q p := Or.symm h
def Good (y : S48) (Q : List S50) : List Nat → (Nat → Bool) → List Nat → Prop
  | [], _, [] => True
  | p :: ps, taken, a :: us => spotB y (Q.getD p z50) a = true ∧ freeB taken a (lenQ Q p) = true ∧ Good y Q ps (markB taken a (lenQ Q p)) us
  | _, _, _ => False
def lexLe : List Nat → List Nat → Prop
  | [], _ => True
  | _ :: _, [] => False
  | a :: us, b :: bs => a < b ∨ (a = b ∧ lexLe us bs)
theorem spot_lt {y : S48} {x : S50} {a : Nat} (h : spotB y x a = true) : (a : Int) + x.f0 ≤ y.f0 ∧ canN y x a = 2 := by
  unfold spotB liesB at h
  simp only [Bool.and_eq_true, decide_eq_true_eq, beq_iff_eq] at h
  exact ⟨by omega, h.2⟩
theorem mem_spots {y : S48} {x : S50} (h1 : 1 ≤ x.f0) {a : Nat} : a ∈ spotsL y x ↔ spotB y x a = true := by
  unfold spotsL
  rw [List.mem_filter, List.mem_range]
  constructor
  · exact fun h => h.2
  · intro h
    have := (spot_lt h).1
    exact ⟨by omega, h⟩
theorem spots_sorted (y : S48) (x : S50) : (spotsL y x).Pairwise (· < ·) := List.pairwise_lt_range.filter _
theorem laidFrom_none {y : S48} {Q : List S50} : ∀ (ps : List Nat) (hL : ∀ p ∈ ps, 1 ≤ (Q.getD p z50).f0) (taken : Nat → Bool) (out : List Nat), laidFrom y Q ps taken out = none → ∀ bs, ¬ Good y Q ps taken bs
  | [], _, _, _, h, _, _ => by simp [laidFrom] at h
  | p :: ps, hL, taken, out, h, [], hg => hg
  | p :: ps, hL, taken, out, h, b :: bs, hg => by
    obtain ⟨g1, g2, g3⟩ := hg
    unfold laidFrom at h
    rw [List.findSome?_eq_none_iff] at h
    have h' := h b ((mem_spots (hL p (by simp))).2 g1)
    unfold lenQ at g2 g3
    rw [if_pos g2] at h'
    exact laidFrom_none ps (fun q hq => hL q (by simp [hq])) _ _ h' bs g3
theorem laidFrom_some {y : S48} {Q : List S50} : ∀ (ps : List Nat) (hL : ∀ p ∈ ps, 1 ≤ (Q.getD p z50).f0) (taken : Nat → Bool) (out o : List Nat), laidFrom y Q ps taken out = some o → ∃ us, o = out ++ us ∧ Good y Q ps taken us ∧ ∀ bs, Good y Q ps taken bs → lexLe us bs
  | [], _, taken, out, o, h => by
    simp only [laidFrom, Option.some.injEq] at h
    exact ⟨[], by simp [h], trivial, fun _ _ => trivial⟩
  | p :: ps, hL, taken, out, o, h => by
    have hL' : ∀ q ∈ ps, 1 ≤ (Q.getD q z50).f0 := fun q hq => hL q (by simp [hq])
    unfold laidFrom at h
    obtain ⟨l1, a, l2, e, hf, hn⟩ := List.findSome?_eq_some_iff.1 h
    have hs := (mem_spots (y := y) (hL p (by simp))).1 (by rw [e]; simp : a ∈ _)
    by_cases hfr : freeB taken a (Q.getD p z50).f0.toNat = true
    · rw [if_pos hfr] at hf
      obtain ⟨us, e1, e2, e3⟩ := laidFrom_some ps hL' _ _ _ hf
      refine ⟨a :: us, by rw [e1]; simp, ⟨hs, hfr, e2⟩, fun bs hb => ?_⟩
      match bs, hb with
      | b :: bs, hb =>
        obtain ⟨g1, g2, g3⟩ := hb
        have hm := (mem_spots (hL p (by simp))).2 g1
        rw [e] at hm
        simp only [List.mem_append, List.mem_cons] at hm
        rcases hm with hm | rfl | hm
        · have h' := hn b hm
          unfold lenQ at g2 g3
          rw [if_pos g2] at h'
          exact absurd g3 (laidFrom_none ps hL' _ _ h' bs)
        · exact .inr ⟨rfl, e3 bs g3⟩
        · have hp := spots_sorted y (Q.getD p z50)
          rw [e, List.pairwise_append] at hp
          exact .inl ((List.pairwise_cons.1 hp.2.1).1 b hm)
    · rw [if_neg hfr] at hf
      simp at hf
theorem free_iff {taken : Nat → Bool} {a L : Nat} : freeB taken a L = true ↔ ∀ j, a ≤ j → j < a + L → taken j = false := by
  unfold freeB
  rw [Bool.not_eq_true', List.any_eq_false]
  simp only [List.mem_range'_1, Bool.not_eq_true]
  exact ⟨fun h j h1 h2 => h j ⟨h1, h2⟩, fun h j hj => h j hj.1 hj.2⟩
theorem free_none (a L : Nat) : freeB (fun _ => false) a L = true := free_iff.2 fun _ _ _ => rfl
theorem free_mark {taken : Nat → Bool} {a L b M : Nat} (hL : 1 ≤ L) (hM : 1 ≤ M) : freeB (markB taken a L) b M = true ↔ freeB taken b M = true ∧ (a + L ≤ b ∨ b + M ≤ a) := by
  rw [free_iff, free_iff]
  unfold markB
  simp only [Bool.or_eq_false_iff, Bool.and_eq_false_iff, decide_eq_false_iff_not]
  constructor
  · intro h
    refine ⟨fun j h1 h2 => (h j h1 h2).1, ?_⟩
    by_cases hab : a ≤ b
    · have := (h b (Nat.le_refl _) (by omega)).2; omega
    · by_cases hba : a < b + M
      · have := (h a (by omega) hba).2; omega
      · omega
  · rintro ⟨h1, h2⟩ j h3 h4
    exact ⟨h1 j h3 h4, by omega⟩
theorem good_pos {y : S48} {Q : List S50} (pos : Nat → Nat) : ∀ (ps : List Nat) (hL : ∀ p ∈ ps, 1 ≤ lenQ Q p) (taken : Nat → Bool),
    Good y Q ps taken (ps.map pos) ↔ (∀ p ∈ ps, spotB y (Q.getD p z50) (pos p) = true ∧ freeB taken (pos p) (lenQ Q p) = true) ∧ ps.Pairwise (Apart Q pos)
  | [], _, taken => by simp [Good]
  | p :: ps, hL, taken => by
    have h1 := hL p (by simp)
    have ih := good_pos (y := y) pos ps (fun q hq => hL q (by simp [hq])) (markB taken (pos p) (lenQ Q p))
    show (_ ∧ _ ∧ Good y Q ps _ (ps.map pos)) ↔ _
    rw [ih, List.pairwise_cons]
    constructor
    · rintro ⟨a, b, c, d⟩
      refine ⟨fun q hq => ?_, fun q hq => ?_, d⟩
      · rcases List.mem_cons.1 hq with rfl | hq
        · exact ⟨a, b⟩
        · exact ⟨(c q hq).1, ((free_mark h1 (hL q (by simp [hq]))).1 (c q hq).2).1⟩
      · exact ((free_mark h1 (hL q (by simp [hq]))).1 (c q hq).2).2
    · rintro ⟨a, b, c⟩
      exact ⟨(a p (by simp)).1, (a p (by simp)).2, fun q hq => ⟨(a q (by simp [hq])).1, (free_mark h1 (hL q (by simp [hq]))).2 ⟨(a q (by simp [hq])).2, b q hq⟩⟩, c⟩
theorem good_length {y : S48} {Q : List S50} : ∀ (ps : List Nat) (taken : Nat → Bool) (us : List Nat), Good y Q ps taken us → us.length = ps.length
  | [], _, [], _ => rfl
  | [], _, _ :: _, h => h.elim
  | _ :: _, _, [], h => h.elim
  | p :: ps, taken, a :: us, h => by simp [good_length ps _ us h.2.2]
def posOf (ps us : List Nat) (p : Nat) : Nat := us.getD (ps.idxOf p) 0
theorem map_posOf {ps us : List Nat} (hn : ps.Nodup) (hl : us.length = ps.length) : ps.map (posOf ps us) = us := by
  apply List.ext_getElem
  · simp [hl]
  · intro i h1 h2
    rw [List.getElem_map]
    have hi : i < ps.length := by simpa using h1
    unfold posOf
    rw [List.Nodup.idxOf_getElem hn i hi]
    simp [h2]
def LiesOn (y : S48) (Q : List S50) (S : Nat → Prop) (pos : Nat → Nat) : Prop := (∀ p, S p → spotB y (Q.getD p z50) (pos p) = true) ∧ ∀ p q, S p → S q → p ≠ q → Apart Q pos p q
theorem pairwise_apart {Q : List S50} {pos : Nat → Nat} {ps : List Nat} (hn : ps.Nodup) : ps.Pairwise (Apart Q pos) ↔ ∀ p q, p ∈ ps → q ∈ ps → p ≠ q → Apart Q pos p q := by
  constructor
  · intro h p q hp hq hne
    exact List.Pairwise.forall_of_forall_of_flip (R := fun a b => a ≠ b → Apart Q pos a b) (fun a _ e => absurd rfl e) (h.imp (S := fun a b => a ≠ b → Apart Q pos a b) fun h _ => h) (h.imp (S := flip fun a b => a ≠ b → Apart Q pos a b) fun h _ => h.symm) hp hq hne
  · intro h
    exact List.Pairwise.imp_of_mem (fun ha hb hne => h _ _ ha hb hne) hn
theorem good_lies {y : S48} {Q : List S50} {ps : List Nat} (hn : ps.Nodup) (hL : ∀ p ∈ ps, 1 ≤ lenQ Q p) {pos : Nat → Nat} : Good y Q ps (fun _ => false) (ps.map pos) ↔ LiesOn y Q (· ∈ ps) pos := by
  rw [good_pos pos ps hL, pairwise_apart hn]
  unfold LiesOn
  constructor
  · exact fun h => ⟨fun p hp => (h.1 p hp).1, h.2⟩
  · exact fun h => ⟨fun p hp => ⟨h.1 p hp, free_none _ _⟩, h.2⟩
theorem laid_some {y : S48} {Q : List S50} {ps : List Nat} (hn : ps.Nodup) (hL : ∀ p ∈ ps, 1 ≤ (Q.getD p z50).f0) {o : List Nat} (h : laidB y Q ps = some o) :
    o.length = ps.length ∧ LiesOn y Q (· ∈ ps) (posOf ps o) ∧ ∀ pos, LiesOn y Q (· ∈ ps) pos → lexLe o (ps.map pos) := by
  have hL' : ∀ p ∈ ps, 1 ≤ lenQ Q p := fun p hp => by have := hL p hp; unfold lenQ; omega
  obtain ⟨us, e, hg, hm⟩ := laidFrom_some ps hL _ _ _ h
  rw [List.nil_append] at e
  subst e
  have hl := good_length _ _ _ hg
  refine ⟨hl, ?_, fun pos hp => hm _ ((good_lies hn hL').2 hp)⟩
  rw [← good_lies hn hL', map_posOf hn hl]
  exact hg
theorem laid_iff {y : S48} {Q : List S50} {ps : List Nat} (hn : ps.Nodup) (hL : ∀ p ∈ ps, 1 ≤ (Q.getD p z50).f0) : (laidB y Q ps).isSome = true ↔ ∃ pos, LiesOn y Q (· ∈ ps) pos := by
  have hL' : ∀ p ∈ ps, 1 ≤ lenQ Q p := fun p hp => by have := hL p hp; unfold lenQ; omega
  constructor
  · intro h
    obtain ⟨o, ho⟩ := Option.isSome_iff_exists.1 h
    exact ⟨_, (laid_some hn hL ho).2.1⟩
  · rintro ⟨pos, hp⟩
    cases h : laidB y Q ps with
    | some o => rfl
    | none => exact absurd ((good_lies hn hL').2 hp) (laidFrom_none ps hL _ _ h _)
theorem ints_inj {a b : List Nat} (h : ints a = ints b) : a = b := by
  unfold ints at h
  exact (List.map_inj_right (fun x y e => Int.ofNat.inj e)).1 h
theorem setL_nodup (s : Nat) : (setL s).Nodup := List.nodup_range.filter _
theorem mem_setL {s p : Nat} : p ∈ setL s ↔ p < 5 ∧ bitB s p = true := by unfold setL; rw [List.mem_filter, List.mem_range]
def numB (f : Nat → Bool) : Nat := (f 0).toNat + 2 * (f 1).toNat + 4 * (f 2).toNat + 8 * (f 3).toNat + 16 * (f 4).toNat
theorem numB_lt (f : Nat → Bool) : numB f < 32 := by
  unfold numB
  have := Bool.toNat_le (f 0); have := Bool.toNat_le (f 1); have := Bool.toNat_le (f 2); have := Bool.toNat_le (f 3); have := Bool.toNat_le (f 4)
  omega
theorem bit_numB (f : Nat → Bool) {q : Nat} (hq : q < 5) : bitB (numB f) q = f q := by
  unfold numB
  obtain rfl | rfl | rfl | rfl | rfl : q = 0 ∨ q = 1 ∨ q = 2 ∨ q = 3 ∨ q = 4 := by omega
  all_goals (cases f 0 <;> cases f 1 <;> cases f 2 <;> cases f 3 <;> cases f 4 <;> rfl)
theorem num_bits : ∀ s, s < 32 → numB (bitB s) = s := by decide
theorem eq_of_bits {s t : Nat} (hs : s < 32) (ht : t < 32) (h : ∀ q, q < 5 → bitB s q = bitB t q) : s = t := by
  rw [← num_bits s hs, ← num_bits t ht]
  unfold numB
  rw [h 0 (by omega), h 1 (by omega), h 2 (by omega), h 3 (by omega), h 4 (by omega)]
theorem bits_sub : ∀ s, s < 32 → ∀ t, t < 32 → (t &&& s == t) = true → ∀ q, q < 5 → bitB (s - t) q = (bitB s q && !bitB t q) ∧ (bitB t q = true → bitB s q = true) := by decide
theorem sub_of_bits : ∀ s, s < 32 → ∀ t, t < 32 → (∀ q, q < 5 → bitB t q = true → bitB s q = true) → (t &&& s == t) = true ∧ t ≤ s := by decide
theorem set_empty {s : Nat} (hs : s < 32) : setL s = [] ↔ s = 0 := by
  constructor
  · intro h
    refine eq_of_bits hs (by omega) (fun q hq => ?_)
    have : ¬ (q ∈ setL s) := by rw [h]; simp
    rw [mem_setL] at this
    have e : bitB s q = false := by simpa [hq] using this
    rw [e]
    unfold bitB; simp
  · rintro rfl; decide
def Cuts (P : List S48) (Q : List S50) (l : List Nat) (S : Nat → Prop) (a pos : Nat → Nat) : Prop :=
  (∀ p, S p → a p ∈ l ∧ spotB (P.getD (a p) z48) (Q.getD p z50) (pos p) = true) ∧ ∀ p q, S p → S q → p ≠ q → a p = a q → Apart Q pos p q
theorem cut_iff {P : List S48} {Q : List S50} (hq : ∀ p, p < Q.length → 1 ≤ (Q.getD p z50).f0) : ∀ (l : List Nat) (hl : l.Nodup) (s : Nat) (hs : s < 32) (hb : ∀ p ∈ setL s, p < Q.length),
    cutB P Q l s = true ↔ ∃ a pos, Cuts P Q l (· ∈ setL s) a pos
  | [], _, s, hs, hb => by
    unfold cutB
    rw [beq_iff_eq, ← set_empty hs]
    constructor
    · intro h
      exact ⟨fun _ => 0, fun _ => 0, fun p hp => by rw [h] at hp; simp at hp, fun p q hp => by rw [h] at hp; simp at hp⟩
    · rintro ⟨a, pos, h1, _⟩
      cases e : setL s with
      | nil => rfl
      | cons p t => exact absurd (h1 p (by rw [e]; simp)).1 (by simp)
  | i :: l, hl, s, hs, hb => by
    have hl' := (List.nodup_cons.1 hl)
    unfold cutB
    rw [Bool.or_eq_true, beq_iff_eq, List.any_eq_true]
    constructor
    · rintro (rfl | ⟨t, ht, h⟩)
      · have e := (set_empty (by omega : 0 < 32)).2 rfl
        exact ⟨fun _ => 0, fun _ => 0, fun p hp => by rw [e] at hp; simp at hp, fun p q hp => by rw [e] at hp; simp at hp⟩
      · rw [List.mem_range] at ht
        rw [Bool.and_eq_true, Bool.and_eq_true] at h
        obtain ⟨h1, h2, h3⟩ := h
        have hbits := bits_sub s hs t (by omega) h1
        have hbt : ∀ p ∈ setL t, p ∈ setL s := fun p hp => by
          rw [mem_setL] at hp ⊢
          exact ⟨hp.1, (hbits p hp.1).2 hp.2⟩
        have hbd : ∀ p, p ∈ setL (s - t) ↔ p ∈ setL s ∧ ¬ p ∈ setL t := fun p => by
          rw [mem_setL, mem_setL, mem_setL]
          constructor
          · rintro ⟨a, b⟩
            rw [(hbits p a).1, Bool.and_eq_true, Bool.not_eq_true'] at b
            exact ⟨⟨a, b.1⟩, fun h => by rw [b.2] at h; exact absurd h.2 (by simp)⟩
          · rintro ⟨⟨a, b⟩, c⟩
            refine ⟨a, ?_⟩
            rw [(hbits p a).1, b]
            cases e : bitB t p with
            | false => rfl
            | true => exact absurd ⟨a, e⟩ c
        obtain ⟨pos1, g1, g2⟩ := (laid_iff (setL_nodup t) (fun p hp => hq p (hb p (hbt p hp)))).1 h2
        obtain ⟨a2, pos2, g3, g4⟩ := (cut_iff hq l hl'.2 (s - t) (by omega) (fun p hp => hb p ((hbd p).1 hp).1)).1 h3
        classical
        refine ⟨fun p => if p ∈ setL t then i else a2 p, fun p => if p ∈ setL t then pos1 p else pos2 p, fun p hp => ?_, fun p q hp hq hne he => ?_⟩
        · by_cases hpt : p ∈ setL t
          · simp only [if_pos hpt]
            exact ⟨by simp, g1 p hpt⟩
          · simp only [if_neg hpt]
            have := g3 p ((hbd p).2 ⟨hp, hpt⟩)
            exact ⟨by simp [this.1], this.2⟩
        · unfold Apart
          by_cases hpt : p ∈ setL t <;> by_cases hqt : q ∈ setL t
          · simp only [hpt, hqt, if_true]
            exact g2 p q hpt hqt hne
          · simp only [hpt, hqt, if_true, if_false] at he
            exact absurd (he ▸ (g3 q ((hbd q).2 ⟨hq, hqt⟩)).1) hl'.1
          · simp only [hpt, hqt, if_true, if_false] at he
            exact absurd (he ▸ (g3 p ((hbd p).2 ⟨hp, hpt⟩)).1) hl'.1
          · simp only [hpt, hqt, if_false] at he ⊢
            exact g4 p q ((hbd p).2 ⟨hp, hpt⟩) ((hbd q).2 ⟨hq, hqt⟩) hne he
    · rintro ⟨a, pos, h1, h2⟩
      right
      let t := numB fun p => bitB s p && decide (a p = i)
      have ht : t < 32 := numB_lt _
      have hbit : ∀ q, q < 5 → bitB t q = (bitB s q && decide (a q = i)) := fun q hq => bit_numB (fun p => bitB s p && decide (a p = i)) hq
      obtain ⟨e1, e2⟩ := sub_of_bits s hs t ht (fun q hq h => by rw [hbit q hq, Bool.and_eq_true] at h; exact h.1)
      have hbits := bits_sub s hs t ht e1
      have hmt : ∀ p, p ∈ setL t ↔ p ∈ setL s ∧ a p = i := fun p => by
        rw [mem_setL, mem_setL]
        constructor
        · rintro ⟨c, d⟩; rw [hbit p c, Bool.and_eq_true, decide_eq_true_eq] at d; exact ⟨⟨c, d.1⟩, d.2⟩
        · rintro ⟨⟨c, d⟩, e⟩; exact ⟨c, by rw [hbit p c, d, e]; simp⟩
      have hbd : ∀ p, p ∈ setL (s - t) → p ∈ setL s ∧ ¬ a p = i := fun p hp => by
        rw [mem_setL] at hp
        obtain ⟨c, d⟩ := hp
        rw [(hbits p c).1, hbit p c, Bool.and_eq_true] at d
        refine ⟨mem_setL.2 ⟨c, d.1⟩, fun e => ?_⟩
        rw [d.1] at d
        simp [e] at d
      refine ⟨t, by rw [List.mem_range]; omega, ?_⟩
      rw [Bool.and_eq_true, Bool.and_eq_true]
      refine ⟨e1, ?_, ?_⟩
      · refine (laid_iff (setL_nodup t) (fun p hp => hq p (hb p ((hmt p).1 hp).1))).2 ⟨pos, fun p hp => ?_, fun p q hp hq hne => ?_⟩
        · obtain ⟨c, d⟩ := (hmt p).1 hp
          have := (h1 p c).2
          rwa [d] at this
        · exact h2 p q ((hmt p).1 hp).1 ((hmt q).1 hq).1 hne (((hmt p).1 hp).2.trans ((hmt q).1 hq).2.symm)
      · refine (cut_iff hq l hl'.2 (s - t) (by omega) (fun p hp => hb p (hbd p hp).1)).2 ⟨a, pos, fun p hp => ?_, fun p q hp hq hne he => h2 p q (hbd p hp).1 (hbd q hq).1 hne he⟩
        obtain ⟨c, d⟩ := hbd p hp
        have := h1 p c
        exact ⟨by simpa [d] using this.1, this.2⟩
end Go.Proofs.YtekjlpldooihhaaDoorP
namespace Go.Proofs.YtekjlpldooihhaaDoorP
open Go.RowKit Go.Proofs.YtekjlpldooihhaaDoorW.PrintWords Go.Proofs.YtekjlpldooihhaaDoorH Go.Proofs.YtekjlpldooihhaaDoorEv Go.Proofs.YtekjlpldooihhaaDoor.PA
set_option linter.unusedVariables false
set_option linter.unusedSimpArgs false
theorem cmp_self : ∀ l : List Int, cmpL l l = 0
  | [] => rfl
  | a :: l => by simp [cmpL, cmp_self l]
theorem cmp_zero : ∀ l m : List Int, cmpL l m = 0 → l = m
  | [], [], _ => rfl
  | [], _ :: _, h => by simp [cmpL] at h
  | _ :: _, [], h => by simp [cmpL] at h
  | a :: l, b :: m, h => by
    unfold cmpL at h
    split at h
    · simp at h
    · split at h
      · simp at h
      · obtain rfl : a = b := by omega
        rw [cmp_zero l m h]
theorem cmp_neg : ∀ l m : List Int, cmpL m l = - cmpL l m
  | [], [] => rfl
  | [], _ :: _ => rfl
  | _ :: _, [] => rfl
  | a :: l, b :: m => by
    unfold cmpL
    rw [cmp_neg l m]
    split <;> split <;> (try omega) <;> simp_all <;> omega
theorem cmp_trans : ∀ l m n : List Int, cmpL l m < 0 → cmpL m n < 0 → cmpL l n < 0
  | [], [], n, h, _ => by simp [cmpL] at h
  | [], _ :: _, [], _, h => by simp [cmpL] at h
  | [], _ :: _, _ :: _, _, _ => by simp [cmpL]
  | _ :: _, [], n, h, _ => by simp [cmpL] at h
  | _ :: _, _ :: _, [], _, h => by simp [cmpL] at h
  | a :: l, b :: m, c :: n, h1, h2 => by
    unfold cmpL at h1 h2 ⊢
    rcases Int.lt_trichotomy a b with x | rfl | x
    · rcases Int.lt_trichotomy b c with y | rfl | y
      · rw [if_pos (by omega)]; omega
      · rw [if_pos (by omega)]; omega
      · rw [if_neg (by omega), if_pos y] at h2; omega
    · rcases Int.lt_trichotomy a c with y | rfl | y
      · rw [if_pos y]; omega
      · rw [if_neg (by omega), if_neg (by omega)] at h1 h2 ⊢
        exact cmp_trans l m n h1 h2
      · rw [if_neg (by omega), if_pos y] at h2; omega
    · rw [if_neg (by omega), if_pos x] at h1; omega
structure Strict (bt : List Int → List Int → Bool) : Prop where
  irr : ∀ l, bt l l = false
  trans : ∀ a b c, bt a b = true → bt b c = true → bt a c = true
  tot : ∀ a b, a = b ∨ bt a b = true ∨ bt b a = true
theorem strict_few : Strict betterL := by
  refine ⟨fun l => ?_, fun a b c h1 h2 => ?_, fun a b => ?_⟩
  · unfold betterL; rw [cmp_self]; simp
  · unfold betterL at *
    simp only [Bool.or_eq_true, Bool.and_eq_true, decide_eq_true_eq, beq_iff_eq] at *
    rcases h1 with h1 | ⟨h1, h3⟩ <;> rcases h2 with h2 | ⟨h2, h4⟩
    · left; omega
    · left; omega
    · left; omega
    · right; exact ⟨by omega, cmp_trans a b c h3 h4⟩
  · unfold betterL
    simp only [Bool.or_eq_true, Bool.and_eq_true, decide_eq_true_eq, beq_iff_eq]
    have h1 := cmp_zero a b
    have h2 := cmp_neg a b
    by_cases h : cmpL a b = 0
    · exact .inl (h1 h)
    · rcases Nat.lt_trichotomy a.length b.length with h3 | h3 | h3
      · exact .inr (.inl (.inl h3))
      · by_cases h4 : cmpL a b < 0
        · exact .inr (.inl (.inr ⟨h3, h4⟩))
        · exact .inr (.inr (.inr ⟨h3.symm, by omega⟩))
      · exact .inr (.inr (.inl h3))
theorem strict_more : Strict moreL := by
  refine ⟨fun l => ?_, fun a b c h1 h2 => ?_, fun a b => ?_⟩
  · unfold moreL; rw [cmp_self]; simp
  · unfold moreL at *
    simp only [Bool.or_eq_true, Bool.and_eq_true, decide_eq_true_eq, beq_iff_eq] at *
    rcases h1 with h1 | ⟨h1, h3⟩ <;> rcases h2 with h2 | ⟨h2, h4⟩
    · left; omega
    · left; omega
    · left; omega
    · right; exact ⟨by omega, cmp_trans a b c h3 h4⟩
  · unfold moreL
    simp only [Bool.or_eq_true, Bool.and_eq_true, decide_eq_true_eq, beq_iff_eq]
    have h1 := cmp_zero a b
    have h2 := cmp_neg a b
    by_cases h : cmpL a b = 0
    · exact .inl (h1 h)
    · rcases Nat.lt_trichotomy a.length b.length with h3 | h3 | h3
      · exact .inr (.inr (.inl h3))
      · by_cases h4 : cmpL a b < 0
        · exact .inr (.inl (.inr ⟨h3, h4⟩))
        · exact .inr (.inr (.inr ⟨h3.symm, by omega⟩))
      · exact .inr (.inl (.inl h3))
def BestOf (bt : List Int → List Int → Bool) (is : Nat → Bool) (n : Nat) (l : List Nat) : Prop :=
  (∃ s, s < n ∧ l = setL s ∧ is s = true) ∧ ∀ s, s < n → is s = true → setL s = l ∨ bt (ints l) (ints (setL s)) = true
theorem bestTo_spec {bt : List Int → List Int → Bool} (hS : Strict bt) (is : Nat → Bool) : ∀ n, (bestTo bt is n = (false, []) ∧ ∀ s, s < n → is s = false) ∨ ∃ l, bestTo bt is n = (true, l) ∧ BestOf bt is n l
  | 0 => .inl ⟨rfl, fun s h => absurd h (by omega)⟩
  | n + 1 => by
    show (bestStep bt is n (bestTo bt is n) = _ ∧ _) ∨ ∃ l, bestStep bt is n (bestTo bt is n) = _ ∧ _
    rcases bestTo_spec hS is n with ⟨e, h⟩ | ⟨l, e, ⟨s0, h1, rfl, h2⟩, h3⟩
    · rw [e]
      unfold bestStep
      cases hn : is n with
      | false =>
        left
        refine ⟨by simp, fun s hs => ?_⟩
        rcases Nat.lt_or_ge s n with h' | h'
        · exact h s h'
        · obtain rfl : s = n := by omega
          exact hn
      | true =>
        right
        refine ⟨setL n, by simp, ⟨n, by omega, rfl, hn⟩, fun s hs his => ?_⟩
        rcases Nat.lt_or_ge s n with h' | h'
        · rw [h s h'] at his; exact absurd his (by simp)
        · obtain rfl : s = n := by omega
          exact .inl rfl
    · rw [e]
      right
      unfold bestStep
      cases hn : is n with
      | false =>
        refine ⟨setL s0, by simp, ⟨s0, by omega, rfl, h2⟩, fun s hs his => ?_⟩
        rcases Nat.lt_or_ge s n with h' | h'
        · exact h3 s h' his
        · obtain rfl : s = n := by omega
          rw [hn] at his; exact absurd his (by simp)
      | true =>
        cases hb : bt (ints (setL n)) (ints (setL s0)) with
        | true =>
          refine ⟨setL n, by simp, ⟨n, by omega, rfl, hn⟩, fun s hs his => ?_⟩
          rcases Nat.lt_or_ge s n with h' | h'
          · rcases h3 s h' his with h4 | h4
            · rw [h4]; exact .inr hb
            · exact .inr (hS.trans _ _ _ hb h4)
          · obtain rfl : s = n := by omega
            exact .inl rfl
        | false =>
          refine ⟨setL s0, by simp, ⟨s0, by omega, rfl, h2⟩, fun s hs his => ?_⟩
          rcases Nat.lt_or_ge s n with h' | h'
          · exact h3 s h' his
          · obtain rfl : s = n := by omega
            rcases hS.tot (ints (setL s0)) (ints (setL s)) with h4 | h4 | h4
            · exact .inl (ints_inj h4).symm
            · exact .inr h4
            · rw [hb] at h4; exact absurd h4 (by simp)
theorem cut_zero (P : List S48) (Q : List S50) (l : List Nat) : cutB P Q l 0 = true := by cases l <;> simp [cutB]
theorem most_spec (P : List S48) (Q : List S50) : BestOf moreL (fun s => cutB P Q (setL (2 ^ P.length - 1)) s) (2 ^ Q.length) (mostN P Q) := by
  unfold mostN
  rcases bestTo_spec strict_more (fun s => cutB P Q (setL (2 ^ P.length - 1)) s) (2 ^ Q.length) with ⟨_, h⟩ | ⟨l, e, h⟩
  · have := h 0 (Nat.pos_of_ne_zero (by simp))
    simp only [cut_zero] at this
    exact absurd this (by simp)
  · rw [e]; exact h
theorem fewest_spec (P : List S48) (Q : List S50) : (fewestZ P Q = (false, []) ∧ ∀ s, s < 2 ^ P.length → cutB P Q (setL s) (2 ^ Q.length - 1) = false) ∨ ∃ l, fewestZ P Q = (true, l) ∧ BestOf betterL (fun s => cutB P Q (setL s) (2 ^ Q.length - 1)) (2 ^ P.length) l :=
  bestTo_spec strict_few _ _
end Go.Proofs.YtekjlpldooihhaaDoorP
namespace Go.Proofs.YtekjlpldooihhaaDoorP
open Go.RowKit Go.Proofs.YtekjlpldooihhaaDoorW.PrintWords Go.Proofs.YtekjlpldooihhaaDoorH Go.Proofs.YtekjlpldooihhaaDoorEv Go.Proofs.YtekjlpldooihhaaDoor.PA
set_option linter.unusedVariables false
set_option linter.unusedSimpArgs false
theorem greatest_of {f : Nat → Nat} : ∀ (l : List Nat), l ≠ [] → ∃ p ∈ l, ∀ q ∈ l, f q ≤ f p
  | [], h => absurd rfl h
  | [a], _ => ⟨a, by simp, by simp⟩
  | a :: b :: l, _ => by
    obtain ⟨p, hp, h⟩ := greatest_of (f := f) (b :: l) (by simp)
    by_cases hab : f p ≤ f a
    · exact ⟨a, by simp, fun q hq => by
        rcases List.mem_cons.1 hq with rfl | hq
        · exact Nat.le_refl _
        · exact Nat.le_trans (h q hq) hab⟩
    · exact ⟨p, by simp [hp], fun q hq => by
        rcases List.mem_cons.1 hq with rfl | hq
        · omega
        · exact h q hq⟩
theorem bits_one : ∀ s, s < 32 → ∀ p, p < 5 → bitB s p = true → 2 ^ p ≤ s ∧ (2 ^ p &&& s == 2 ^ p) = true ∧ ∀ q, q < 5 → bitB (s - 2 ^ p) q = (bitB s q && !decide (q = p)) := by decide
theorem mem_less {s p : Nat} (hs : s < 32) (hp : p ∈ setL s) (q : Nat) : q ∈ setL (s - 2 ^ p) ↔ q ∈ setL s ∧ q ≠ p := by
  obtain ⟨h5, hb⟩ := mem_setL.1 hp
  have h := (bits_one s hs p h5 hb).2.2
  rw [mem_setL, mem_setL]
  constructor
  · rintro ⟨a, b⟩
    rw [h q a, Bool.and_eq_true, Bool.not_eq_true', decide_eq_false_iff_not] at b
    exact ⟨⟨a, b.1⟩, b.2⟩
  · rintro ⟨⟨a, b⟩, c⟩
    exact ⟨a, by rw [h q a, b]; simp [c]⟩
def EndAt (y : S48) (Q : List S50) (s : Nat) (e : Int) : Prop :=
  (e = 99 ∧ ∀ pos, ¬ LiesOn y Q (· ∈ setL s) pos) ∨
  (e < 99 ∧ 0 ≤ e ∧ (∃ pos, LiesOn y Q (· ∈ setL s) pos ∧ ∀ p, p ∈ setL s → (pos p + lenQ Q p : Nat) ≤ e) ∧ ∀ pos, LiesOn y Q (· ∈ setL s) pos → ∀ M : Int, 0 ≤ M → (∀ p, p ∈ setL s → (pos p + lenQ Q p : Nat) ≤ M) → e ≤ M)
theorem EndAt.zero (y : S48) (Q : List S50) : EndAt y Q 0 0 := by
  have e := (set_empty (by omega : 0 < 32)).2 rfl
  refine .inr ⟨by omega, by omega, ⟨fun _ => 0, ⟨fun p hp => ?_, fun p q hp => ?_⟩, fun p hp => ?_⟩, fun _ _ M h _ => h⟩
  all_goals (rw [e] at hp; simp at hp)
theorem EndAt.step {y : S48} {Q : List S50} {s : Nat} (hs : s < 32) (h0 : s ≠ 0) (hy : y.f0 ≤ 16) (hL : ∀ p ∈ setL s, 1 ≤ (Q.getD p z50).f0) {E : Nat → Int} (hE : ∀ p ∈ setL s, EndAt y Q (s - 2 ^ p) (E p)) {e : Int} (h3 : e ≤ 99)
    (h1 : e = 99 ∨ ∃ p ∈ setL s, ∃ a ∈ spotsL y (Q.getD p z50), E p ≤ (a : Int) ∧ e = (a : Int) + (Q.getD p z50).f0)
    (h2 : ∀ p ∈ setL s, ∀ a ∈ spotsL y (Q.getD p z50), E p ≤ (a : Int) → e ≤ (a : Int) + (Q.getD p z50).f0) : EndAt y Q s e := by
  have hlen : ∀ p ∈ setL s, ((lenQ Q p : Nat) : Int) = (Q.getD p z50).f0 := fun p hp => by have := hL p hp; unfold lenQ; omega
  have key : ∀ pos, LiesOn y Q (· ∈ setL s) pos → ∃ p ∈ setL s, e ≤ (pos p + lenQ Q p : Nat) ∧ (pos p + lenQ Q p : Nat) ≤ (16 : Int) := by
    intro pos hl
    obtain ⟨p, hp, hm⟩ := greatest_of (f := pos) (setL s) (fun h => h0 ((set_empty hs).1 h))
    have hsp := hl.1 p hp
    have hsl := (spot_lt hsp).1
    have hlp := hlen p hp
    have hrest : ∀ q, q ∈ setL (s - 2 ^ p) → pos q + lenQ Q q ≤ pos p := fun q hq => by
      obtain ⟨hqs, hne⟩ := (mem_less hs hp q).1 hq
      rcases hl.2 q p hqs hp hne with h | h
      · exact h
      · have := hm q hqs
        have := hlen p hp
        have := hL p hp
        omega
    have hlr : LiesOn y Q (· ∈ setL (s - 2 ^ p)) pos := ⟨fun q hq => hl.1 q ((mem_less hs hp q).1 hq).1, fun q r hq hr hne => hl.2 q r ((mem_less hs hp q).1 hq).1 ((mem_less hs hp r).1 hr).1 hne⟩
    have hep : E p ≤ (pos p : Int) := by
      rcases hE p hp with ⟨_, hno⟩ | ⟨_, _, _, hmin⟩
      · exact absurd hlr (hno pos)
      · exact hmin pos hlr (pos p) (by omega) (fun q hq => by have := hrest q hq; omega)
    have := h2 p hp (pos p) ((mem_spots (hL p hp)).2 hsp) hep
    exact ⟨p, hp, by omega, by omega⟩
  rcases h1 with rfl | ⟨p, hp, a, ha, hle, rfl⟩
  · refine .inl ⟨rfl, fun pos hl => ?_⟩
    obtain ⟨p, _, h, h'⟩ := key pos hl
    omega
  · have hsp := (mem_spots (hL p hp)).1 ha
    have hsl := (spot_lt hsp).1
    have hlp := hlen p hp
    have hl1 := hL p hp
    refine .inr ⟨by omega, by omega, ?_, fun pos hl M _ hM => ?_⟩
    · rcases hE p hp with ⟨e99, _⟩ | ⟨_, _, ⟨pos, hl, hends⟩, _⟩
      · omega
      · refine ⟨fun q => if q = p then a else pos q, ⟨fun q hq => ?_, fun q r hq hr hne => ?_⟩, fun q hq => ?_⟩
        · by_cases h : q = p
          · subst h; simpa using hsp
          · simp only [h, if_false]; exact hl.1 q ((mem_less hs hp q).2 ⟨hq, h⟩)
        · unfold Apart
          by_cases h : q = p
          · subst h
            have hr' := (mem_less hs hp r).2 ⟨hr, fun e => hne e.symm⟩
            simp only [if_true, if_neg (fun e => hne e.symm : ¬ r = q)]
            have := hends r hr'
            right; omega
          · by_cases h' : r = p
            · subst h'
              have hq' := (mem_less hs hp q).2 ⟨hq, h⟩
              simp only [if_true, if_neg h]
              have := hends q hq'
              left; omega
            · simp only [h, h', if_false]
              exact hl.2 q r ((mem_less hs hp q).2 ⟨hq, h⟩) ((mem_less hs hp r).2 ⟨hr, h'⟩) hne
        · by_cases h : q = p
          · subst h; simp only [if_true]; omega
          · simp only [h, if_false]
            have := hends q ((mem_less hs hp q).2 ⟨hq, h⟩)
            omega
    · obtain ⟨q, hq, h, _⟩ := key pos hl
      have := hM q hq
      omega
theorem EndAt.laid {y : S48} {Q : List S50} {s : Nat} {e : Int} (hL : ∀ p ∈ setL s, 1 ≤ (Q.getD p z50).f0) (h : EndAt y Q s e) : decide (e < 99) = (laidB y Q (setL s)).isSome ∧ (e = 99 ↔ laidB y Q (setL s) = none) := by
  have hi := laid_iff (y := y) (setL_nodup s) hL
  rcases h with ⟨rfl, h⟩ | ⟨h1, _, ⟨pos, h2, _⟩, _⟩
  · have hn : laidB y Q (setL s) = none := by
      cases hc : laidB y Q (setL s) with
      | none => rfl
      | some o => rw [hc] at hi; obtain ⟨pos, hp⟩ := hi.1 rfl; exact absurd hp (h pos)
    rw [hn]; simp
  · have hs := hi.2 ⟨pos, h2⟩
    rw [hs]
    refine ⟨by simpa using h1, ⟨fun e => by omega, fun e => by rw [e] at hs; simp at hs⟩⟩
theorem cuts_weaker {P P' : List S48} {Q Q' : List S50} {l l' : List Nat} {S S' : Nat → Prop} {a pos : Nat → Nat} (h : Cuts P Q l S a pos) (hl : ∀ i, i ∈ l → i ∈ l') (hS : ∀ p, S' p → S p)
    (hsp : ∀ i p n, i ∈ l → S' p → spotB (P.getD i z48) (Q.getD p z50) n = true → spotB (P'.getD i z48) (Q'.getD p z50) n = true) (hlen : ∀ p, S' p → lenQ Q' p = lenQ Q p) : Cuts P' Q' l' S' a pos :=
  ⟨fun p hp => ⟨hl _ (h.1 p (hS p hp)).1, hsp _ _ _ (h.1 p (hS p hp)).1 hp (h.1 p (hS p hp)).2⟩, fun p q hp hq hne he => by
    have := h.2 p q (hS p hp) (hS q hq) hne he
    unfold Apart at *
    rw [hlen p hp, hlen q hq]
    exact this⟩
theorem full_bits : ∀ n, n ≤ 5 → ∀ q, q < 5 → bitB (2 ^ n - 1) q = decide (q < n) := by decide
theorem mem_full {n : Nat} (hn : n ≤ 5) (q : Nat) : q ∈ setL (2 ^ n - 1) ↔ q < n := by
  rw [mem_setL]
  constructor
  · rintro ⟨a, b⟩; rw [full_bits n hn q a] at b; simpa using b
  · intro h; exact ⟨by omega, by rw [full_bits n hn q (by omega)]; simpa using h⟩
theorem Ok.part1 {P : List S48} {Q : List S50} (h : Ok P Q) (p : Nat) (hp : p < Q.length) : 1 ≤ (Q.getD p z50).f0 := (h.shape _ (by rw [show Q.getD p z50 = Q[p] from by simp [hp]]; exact List.getElem_mem hp)).1
theorem lt32 {n s : Nat} (hn : n ≤ 5) (hs : s < 2 ^ n) : s < 32 := Nat.lt_of_lt_of_le hs (Nat.pow_le_pow_right (by omega : 0 < 2) hn)
theorem Ok.cut {P : List S48} {Q : List S50} (h : Ok P Q) (t : Nat) (s : Nat) (hs : s < 2 ^ Q.length) : cutB P Q (setL t) s = true ↔ ∃ a pos, Cuts P Q (setL t) (· ∈ setL s) a pos :=
  cut_iff h.part1 (setL t) (setL_nodup t) s (lt32 h.q5 hs) (fun p hp => setL_lt hs hp)
end Go.Proofs.YtekjlpldooihhaaDoorP
namespace Go.Proofs.YtekjlpldooihhaaDoorP
open Go.RowKit Go.Proofs.YtekjlpldooihhaaDoorW.PrintWords Go.Proofs.YtekjlpldooihhaaDoorH Go.Proofs.YtekjlpldooihhaaDoorEv Go.Proofs.YtekjlpldooihhaaDoor.PA
set_option linter.unusedVariables false
set_option linter.unusedSimpArgs false
theorem setL_le : ∀ n, n ≤ 5 → ∀ s, s < 2 ^ n → (setL s).length ≤ n := by decide
def pick {α : Type} (z : α) (L : List α) (u : Nat) : List α := (setL u).map fun i => L.getD i z
theorem pick_length {α : Type} (z : α) (L : List α) (u : Nat) : (pick z L u).length = (setL u).length := by simp [pick]
theorem pick_getD {α : Type} (z : α) (L : List α) (u : Nat) {i : Nat} (hi : i < (setL u).length) : (pick z L u).getD i z = L.getD ((setL u).getD i 0) z := by simp [pick, hi]
theorem pick_mem {α : Type} {z : α} {L : List α} {u : Nat} (hu : ∀ i ∈ setL u, i < L.length) {x : α} (hx : x ∈ pick z L u) : x ∈ L := by
  unfold pick at hx
  obtain ⟨i, hi, rfl⟩ := List.mem_map.1 hx
  have := hu i hi
  rw [show L.getD i z = L[i] from by simp [this]]
  exact List.getElem_mem _
theorem Ok.pick {P : List S48} {Q : List S50} (h : Ok P Q) {u v : Nat} (hu : u < 2 ^ P.length) (hv : v < 2 ^ Q.length) : Ok (pick z48 P u) (pick z50 Q v) := by
  have h3 := h.p3
  have h5 := h.q5
  refine ⟨?_, ?_, fun y hy => h.wood y (pick_mem (fun i hi => setL_lt hu hi) hy), fun x hx => h.shape x (pick_mem (fun i hi => setL_lt hv hi) hx)⟩
  · rw [pick_length]; have := setL_le P.length (by omega) u hu; omega
  · rw [pick_length]; have := setL_le Q.length h5 v hv; omega
theorem getD_mem0 {l : List Nat} {i : Nat} (hi : i < l.length) : l.getD i 0 ∈ l := by rw [show l.getD i 0 = l[i] from by simp [hi]]; exact List.getElem_mem _
theorem idx_lt {l : List Nat} {p : Nat} (hp : p ∈ l) : l.idxOf p < l.length := List.idxOf_lt_length_iff.2 hp
theorem getD_idx {l : List Nat} {p : Nat} (hp : p ∈ l) : l.getD (l.idxOf p) 0 = p := by
  have h := idx_lt hp
  rw [show l.getD (l.idxOf p) 0 = l[l.idxOf p] from by simp [h]]
  exact List.getElem_idxOf h
theorem idx_getD {l : List Nat} (hn : l.Nodup) {i : Nat} (hi : i < l.length) : l.idxOf (l.getD i 0) = i := by
  rw [show l.getD i 0 = l[i] from by simp [hi]]
  exact List.Nodup.idxOf_getElem hn i hi
theorem cut_pick {P : List S48} {Q : List S50} (h : Ok P Q) {u v : Nat} (hu : u < 2 ^ P.length) (hv : v < 2 ^ Q.length) :
    cutB (pick z48 P u) (pick z50 Q v) (setL (2 ^ (pick z48 P u).length - 1)) (2 ^ (pick z50 Q v).length - 1) = cutB P Q (setL u) v := by
  have hok := h.pick hu hv
  have h3 : (setL u).length ≤ 5 := by have := hok.p3; rw [pick_length] at this; omega
  have h5 : (setL v).length ≤ 5 := by have := hok.q5; rwa [pick_length] at this
  have hpow : 0 < 2 ^ (pick z50 Q v).length := Nat.pos_of_ne_zero (by simp)
  rw [Bool.eq_iff_iff, hok.cut _ _ (by omega), h.cut _ _ hv, pick_length, pick_length]
  have hlen : ∀ i, i < (setL v).length → lenQ (pick z50 Q v) i = lenQ Q ((setL v).getD i 0) := fun i hi => by unfold lenQ; rw [pick_getD _ _ _ hi]
  have hun := setL_nodup u
  have hvn := setL_nodup v
  constructor
  · rintro ⟨a, pos, h1, h2⟩
    refine ⟨fun p => (setL u).getD (a ((setL v).idxOf p)) 0, fun p => pos ((setL v).idxOf p), fun p hp => ?_, fun p q hp hq hne he => ?_⟩
    · have hi := idx_lt hp
      obtain ⟨h3', h4⟩ := h1 _ ((mem_full h5 _).2 hi)
      have hj := (mem_full h3 _).1 h3'
      rw [pick_getD _ _ _ hj, pick_getD _ _ _ hi, getD_idx hp] at h4
      exact ⟨getD_mem0 hj, h4⟩
    · have hi := idx_lt hp
      have hi' := idx_lt hq
      have hj := (mem_full h3 _).1 (h1 _ ((mem_full h5 _).2 hi)).1
      have hj' := (mem_full h3 _).1 (h1 _ ((mem_full h5 _).2 hi')).1
      have e : a ((setL v).idxOf p) = a ((setL v).idxOf q) := by
        have := congrArg (setL u).idxOf he
        simp only at this
        rwa [idx_getD hun hj, idx_getD hun hj'] at this
      have hne' : (setL v).idxOf p ≠ (setL v).idxOf q := fun e' => hne (by rw [← getD_idx hp, ← getD_idx hq, e'])
      have := h2 _ _ ((mem_full h5 _).2 hi) ((mem_full h5 _).2 hi') hne' e
      unfold Apart at this ⊢
      rwa [hlen _ hi, hlen _ hi', getD_idx hp, getD_idx hq] at this
  · rintro ⟨a, pos, h1, h2⟩
    refine ⟨fun i => (setL u).idxOf (a ((setL v).getD i 0)), fun i => pos ((setL v).getD i 0), fun i hi => ?_, fun i j hi hj hne he => ?_⟩
    · have hi := (mem_full h5 _).1 hi
      obtain ⟨h3', h4⟩ := h1 _ (getD_mem0 hi)
      have hk := idx_lt h3'
      refine ⟨(mem_full h3 _).2 hk, ?_⟩
      rw [pick_getD _ _ _ hk, pick_getD _ _ _ hi, getD_idx h3']
      exact h4
    · have hi := (mem_full h5 _).1 hi
      have hj := (mem_full h5 _).1 hj
      have hk := (h1 _ (getD_mem0 hi)).1
      have hk' := (h1 _ (getD_mem0 hj)).1
      have hne' : (setL v).getD i 0 ≠ (setL v).getD j 0 := fun e => hne (by rw [← idx_getD hvn hi, ← idx_getD hvn hj, e])
      have e : a ((setL v).getD i 0) = a ((setL v).getD j 0) := by
        have := congrArg (fun k => (setL u).getD k 0) he
        simp only at this
        rwa [getD_idx hk, getD_idx hk'] at this
      have := h2 _ _ (getD_mem0 hi) (getD_mem0 hj) hne' e
      unfold Apart at this ⊢
      rwa [hlen _ hi, hlen _ hj]
end Go.Proofs.YtekjlpldooihhaaDoorP
namespace Go.Proofs.YtekjlpldooihhaaDoor.PR
open Go.RowKit Go.Proofs.YtekjlpldooihhaaDoorW.PrintWords Go.Proofs.YtekjlpldooihhaaDoorEv Go.Proofs.YtekjlpldooihhaaDoorP Go.Proofs.YtekjlpldooihhaaDoor.PT Go.Proofs.YtekjlpldooihhaaDoorH
set_option linter.unusedVariables false
set_option linter.unusedSimpArgs false
theorem rd_at (l : List Int) (j : Nat) : rd l (j : Int) = l.getD j 0 := rfl
theorem filter_next_yes {p : Nat → Bool} {k : Nat} (h : p k = true) : (List.range (k + 1)).filter p = (List.range k).filter p ++ [k] := by
  rw [List.range_succ, List.filter_append]; simp [h]
theorem filter_next_no {p : Nat → Bool} {k : Nat} (h : p k = false) : (List.range (k + 1)).filter p = (List.range k).filter p := by
  rw [List.range_succ, List.filter_append]; simp [h]
theorem In_f (a b c : Int) : skewbaldref00_In.f a b c = some (decide (b ≤ a) && decide (a ≤ c)) := by
  unfold skewbaldref00_In.f
  by_cases h : b ≤ a <;> simp [h]
theorem Equal_l0 (x y : List Int) (hxy : x.length = y.length) (hs : x.length < 9223372036854775808) : ∀ (d j : Nat) (b : Bool), j + d = x.length →
    Evt (fun k => skewbaldref00_Equal.l0 k x y b (j : Int)) (b && decide (x.drop j = y.drop j))
  | d, j, false, hj => by
    refine Evt.succ ?_
    simp only [skewbaldref00_Equal.l0]
    exact Evt.neg (by simp) (by simpa using Evt.pure false)
  | 0, j, true, hj => by
    refine Evt.succ ?_
    simp only [skewbaldref00_Equal.l0]
    rw [List.drop_eq_nil_of_le (by omega), List.drop_eq_nil_of_le (by omega)]
    exact Evt.pos (by first | rfl | trivial) (Evt.neg (by omega) (by simpa using Evt.pure true))
  | d + 1, j, true, hj => by
    refine Evt.succ ?_
    simp only [skewbaldref00_Equal.l0]
    have h1 : x.drop j = x[j] :: x.drop (j + 1) := List.drop_eq_getElem_cons (by omega)
    have h2 : y.drop j = y[j] :: y.drop (j + 1) := List.drop_eq_getElem_cons (by omega)
    have g1 : rd x (j : Int) = x[j] := by rw [rd_at]; simp [show j < x.length by omega]
    have g2 : rd y (j : Int) = y[j] := by rw [rd_at]; simp [show j < y.length by omega]
    refine Evt.pos (by first | rfl | trivial) (Evt.pos (by omega) (Evt.pos (by omega) (Evt.pos (by omega) ?_)))
    rw [g1, g2, h1, h2, w64 j (by omega)]
    refine (Equal_l0 x y hxy hs d (j + 1) _ (by omega)).of_eq ?_
    rw [Bool.eq_iff_iff]
    simp only [Bool.and_eq_true, beq_iff_eq, decide_eq_true_eq, List.cons.injEq, Bool.true_and]
theorem Equal_f (x y : List Int) (hs : x.length < 9223372036854775808) : Evt (fun k => skewbaldref00_Equal.f k x y) (decide (x = y)) := by
  unfold skewbaldref00_Equal.f
  by_cases h : x.length = y.length
  · have hb : ((x.length : Int) == (y.length : Int)) = true := by simp [h]
    rw [hb]
    refine (Equal_l0 x y h hs x.length 0 true (by omega)).of_eq ?_
    simp
  · have hb : ((x.length : Int) == (y.length : Int)) = false := by simp; omega
    rw [hb]
    refine Evt.succ ?_
    simp only [skewbaldref00_Equal.l0]
    refine Evt.neg (by simp) ?_
    have : decide (x = y) = false := decide_eq_false (fun e => h (by rw [e]))
    rw [this]
    exact Evt.pure _
theorem Of_f (s i : Nat) (hs : s < 256) (hi : i < 64) : skewbaldref00_Of.f (s : Int) (i : Int) = some (bitB s i) := by
  unfold skewbaldref00_Of.f
  rw [if_pos (by omega)]
  congr 1
  have : shr .i64 (s : Int) (i : Int) = (s : Int) / 2 ^ i := by
    unfold shr
    rw [show min (i : Int).toNat (IntKind.i64).bits = i by simp [IntKind.bits]; omega]
  rw [this]
  exact Go.Proofs.YtekjlpldooihhaaDoorH.bit_at s i hs
def sizesL (s n : Nat) : List Nat := (List.range n).filter (bitB s)
theorem List_l0 (s n : Nat) (hs : s < 256) (hn : n < 64) : ∀ (d j : Nat), j + d = n →
    Evt (fun k => skewbaldref00_List.l0 k (s : Int) (n : Int) (ints ((List.range j).filter (bitB s))) (j : Int)) (ints ((List.range n).filter (bitB s)))
  | 0, j, hj => by
    refine Evt.succ ?_
    simp only [skewbaldref00_List.l0]
    refine Evt.neg (by omega) ?_
    obtain rfl : j = n := by omega
    exact Evt.pure _
  | d + 1, j, hj => by
    refine Evt.succ ?_
    simp only [skewbaldref00_List.l0]
    refine Evt.pos (by omega) ?_
    rw [Of_f s j hs (by omega), w64 j (by omega)]
    simp only [Option.bind_some]
    have ih := List_l0 s n hs hn d (j + 1) (by omega)
    cases hc : bitB s j with
    | true =>
      rw [filter_next_yes hc, ints_append] at ih
      have hl : (ints ((List.range j).filter (bitB s))).length ≤ j := by
        rw [ints_length]
        have := List.length_filter_le (bitB s) (List.range j)
        rwa [List.length_range] at this
      exact Evt.pos rfl (Evt.pos (by omega) ih)
    | false =>
      rw [filter_next_no hc] at ih
      exact Evt.neg (by simp) ih
theorem List_f (s n : Nat) (hs : s < 256) (hn : n < 64) : Evt (fun k => skewbaldref00_List.f k (s : Int) (n : Int)) (ints (sizesL s n)) := by
  unfold skewbaldref00_List.f
  exact List_l0 s n hs hn n 0 (by omega)
theorem tmod_cases (n m : Int) (hm : 0 < m) : (0 ≤ Int.tmod n m ∧ Int.tmod n m = n % m) ∨ (Int.tmod n m < 0 ∧ -m < Int.tmod n m ∧ Int.tmod n m + m = n % m) := by
  have h := Int.mul_tdiv_add_tmod n m
  have h1 : Int.tmod n m < m := Int.tmod_lt_of_pos n hm
  have h2 : -m < Int.tmod n m := Int.lt_tmod_of_pos n hm
  generalize Int.tmod n m = r at *
  generalize Int.tdiv n m = q at *
  subst h
  rw [Int.add_comm, Int.add_mul_emod_self_left]
  by_cases h0 : 0 ≤ r
  · exact .inl ⟨h0, (Int.emod_eq_of_lt h0 h1).symm⟩
  · refine .inr ⟨by omega, h2, ?_⟩
    rw [← Int.add_emod_right, Int.emod_eq_of_lt (by omega) (by omega)]
theorem Round_f (n : Int) (m : Nat) (h1 : 1 ≤ m) (h2 : m < 9223372036854775808) : skewbaldref00_Round.f n (m : Int) = some (n % (m : Int)) := by
  unfold skewbaldref00_Round.f
  rw [if_neg (by omega), if_neg (by omega)]
  rcases tmod_cases n m (by omega) with ⟨a, b⟩ | ⟨a, b, c⟩
  · rw [if_neg (by omega), b]
  · rw [if_pos a, ← c]
    congr 1
    unfold wrap64
    omega
theorem Round_nat (n : Int) (m : Nat) (h1 : 1 ≤ m) (h2 : m < 9223372036854775808) : ∃ t : Nat, t < m ∧ skewbaldref00_Round.f n (m : Int) = some (t : Int) := by
  have h0 := Int.emod_nonneg n (show (m : Int) ≠ 0 by omega)
  have h3 := Int.emod_lt_of_pos n (show (0 : Int) < m by omega)
  refine ⟨(n % (m : Int)).toNat, by omega, ?_⟩
  rw [Round_f n m h1 h2]
  congr 1
  omega
def growsB (b : Int) : Int → List Int → Bool
  | _, [] => true
  | last, x :: xs => (decide (last < x) && decide (x < b)) && growsB b x xs
theorem Grows_l0 (l : List Int) (hl : l.length < 9223372036854775807) (b : Int) : ∀ (d j : Nat) (last : Int), j + d = l.length →
    Evt (fun k => skewbaldref00_Grows.l0 k l b last (j : Int)) (growsB b last (l.drop j))
  | 0, j, last, hj => by
    refine Evt.succ ?_
    simp only [skewbaldref00_Grows.l0]
    rw [List.drop_eq_nil_of_le (by omega)]
    exact Evt.neg (by omega) (Evt.pure _)
  | d + 1, j, last, hj => by
    refine Evt.succ ?_
    simp only [skewbaldref00_Grows.l0]
    have h1 : l.drop j = l[j] :: l.drop (j + 1) := List.drop_eq_getElem_cons (by omega)
    have g1 : rd l (j : Int) = l[j] := by rw [rd_at]; simp [show j < l.length by omega]
    rw [h1, g1, w64 j (by omega)]
    refine Evt.pos (by omega) (Evt.pos (by omega) ?_)
    unfold growsB
    refine Evt.ite (fun h => ?_) (fun h => Evt.ite (fun h2 => ?_) (fun h2 => ?_))
    · rw [show decide (last < l[j]) = false by simp; omega]; exact Evt.pure false
    · rw [show decide (l[j] < b) = false by simp; omega, Bool.and_false]; exact Evt.pure false
    · rw [show decide (last < l[j]) = true by simp; omega, show decide (l[j] < b) = true by simp; omega]
      exact Grows_l0 l hl b d (j + 1) _ (by omega)
theorem Grows_f (l : List Int) (hl : l.length < 9223372036854775807) (b : Int) : Evt (fun k => skewbaldref00_Grows.f k l b) (growsB b (-1) l) := by
  unfold skewbaldref00_Grows.f
  exact Grows_l0 l hl b l.length 0 (-1) (by omega)
def lessB : List Int → List Int → Bool
  | [], [] => false
  | [], _ :: _ => true
  | _ :: _, [] => false
  | a :: l, b :: m => if a = b then lessB l m else decide (a < b)
theorem lessB_cons (a b : Int) (l m : List Int) : lessB (a :: l) (b :: m) = if a = b then lessB l m else decide (a < b) := rfl
theorem Less_l0 (x y : List Int) (hx : x.length < 9223372036854775807) (hy : y.length < 9223372036854775807) : ∀ (d j : Nat), j + d = x.length → j ≤ y.length →
    Evt (fun k => skewbaldref00_Less.l0 k x y (j : Int)) (lessB (x.drop j) (y.drop j))
  | 0, j, hj, hj2 => by
    refine Evt.succ ?_
    simp only [skewbaldref00_Less.l0]
    refine Evt.neg (by omega) (Evt.succ ?_)
    simp only [skewbaldref00_Less.j1]
    refine Evt.neg (by simp) ?_
    rw [List.drop_eq_nil_of_le (show x.length ≤ j by omega)]
    by_cases e : y.length = j
    · rw [List.drop_eq_nil_of_le (show y.length ≤ j by omega), decide_eq_false (show ¬ (x.length : Int) < (y.length : Int) by omega)]
      exact Evt.pure _
    · rw [List.drop_eq_getElem_cons (show j < y.length by omega), decide_eq_true (show (x.length : Int) < (y.length : Int) by omega)]
      exact Evt.pure _
  | d + 1, j, hj, hj2 => by
    refine Evt.succ ?_
    simp only [skewbaldref00_Less.l0]
    refine Evt.pos (by omega) (Evt.succ ?_)
    simp only [skewbaldref00_Less.j1]
    have h1 : x.drop j = x[j] :: x.drop (j + 1) := List.drop_eq_getElem_cons (by omega)
    by_cases e : y.length = j
    · refine Evt.neg (by rw [decide_eq_false (show ¬ (j : Int) < (y.length : Int) by omega)]; simp) ?_
      rw [h1, List.drop_eq_nil_of_le (show y.length ≤ j by omega), decide_eq_false (show ¬ (x.length : Int) < (y.length : Int) by omega)]
      exact Evt.pure _
    · have h2 : y.drop j = y[j] :: y.drop (j + 1) := List.drop_eq_getElem_cons (by omega)
      have g1 : rd x (j : Int) = x[j] := by rw [rd_at]; simp [show j < x.length by omega]
      have g2 : rd y (j : Int) = y[j] := by rw [rd_at]; simp [show j < y.length by omega]
      refine Evt.pos (by rw [decide_eq_true (show (j : Int) < (y.length : Int) by omega)]) (Evt.pos (by omega) (Evt.pos (by omega) (Evt.pos (by omega) ?_)))
      rw [g1, g2, h1, h2, w64 j (by omega), lessB_cons]
      by_cases h : x[j] = y[j]
      · rw [if_pos h]; exact Evt.pos h (Less_l0 x y hx hy d (j + 1) (by omega) (by omega))
      · rw [if_neg h]; exact Evt.neg h (Evt.pure _)
theorem Less_f (x y : List Int) (hx : x.length < 9223372036854775807) (hy : y.length < 9223372036854775807) : Evt (fun k => skewbaldref00_Less.f k x y) (lessB x y) := by
  unfold skewbaldref00_Less.f
  exact Less_l0 x y hx hy x.length 0 (by omega) (by omega)
def shorterB (l m : List Int) : Bool := if (l.length : Int) = (m.length : Int) then lessB l m else decide ((l.length : Int) < (m.length : Int))
theorem Shorter_f (x y : List Int) (hx : x.length < 9223372036854775807) (hy : y.length < 9223372036854775807) : Evt (fun k => skewbaldref00_Shorter.f k x y) (shorterB x y) := by
  unfold skewbaldref00_Shorter.f shorterB
  by_cases h : (x.length : Int) = (y.length : Int)
  · rw [if_pos h]; exact Evt.pos h (Evt.bind (Less_f x y hx hy) (Evt.pure _))
  · rw [if_neg h]; exact Evt.neg h (Evt.pure _)
end Go.Proofs.YtekjlpldooihhaaDoor.PR
