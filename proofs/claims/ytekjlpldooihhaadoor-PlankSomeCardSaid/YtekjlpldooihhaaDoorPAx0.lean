/- Package plank: where the joints of a part lie. -/
import Derived.Test.YtekjlpldooihhaaDoorProg
import Derived.Below
import Derived.Deep.Draws
import Derived.Deep.AppendLies
import Derived.Maps.AppendAt
import Derived.OwnWalk
import Derived.Laws.BytesArg
import Derived.Laws.MakeOwn
import Derived.Laws.OwnMore
import Derived.Deep.OwnRows
import Derived.Tactics
import Derived.Lib.ConvBytes
import Derived.Laws.Slices
import Derived.WalkKit
import Derived.KernelRfl
import Derived.RowKit3
import Derived.Deep.LoopGhost
import Derived.Deep.QuietTactic
import Derived.BigQuiet
import Derived.WideLaws
import Derived.Deep.DeepCutAuto
import Derived.Deep.CutBlock
import Derived.Deep.RegionHeld3
import Derived.Laws.Rows
import Derived.Lib.AppendStr
import Derived.ArgAppend
import Derived.Laws.IdiomCopy
import Derived.OrdersHeld
import Derived.Laws.BitsLemmas
import Derived.RowKit
import Derived.Test.YtekjlpldooihhaaDoorWWords
import Derived.WalkSpells
import Derived.WalkLawsBesides
import Derived.Laws.CopyOwn
import Derived.Lib.Hide
import Derived.Outline
import Derived.RangeFuncNested
import Derived.RangeFuncBound
import Derived.RangeFuncCalls
import Derived.RangeFuncLeaves
import Derived.Shelf.Abstract
import Derived.Shelf.RegionOpen
import Derived.OwnWalkIn
import Derived.TacticsInMore
import Derived.LoopNIn
import Derived.LoopIn
import Derived.StillTailTactics
import Derived.RangeFuncBox
import Derived.Laws.ResultCell
import Derived.ChangeKeysEq
namespace Go.Proofs.YtekjlpldooihhaaDoor.PA
open Go.Proofs.YtekjlpldooihhaaDoorSh
open Go.RowKit Go.Proofs.YtekjlpldooihhaaDoorW.PrintWords Go.Proofs.YtekjlpldooihhaaDoorW.PrintLast Go.Proofs.YtekjlpldooihhaaDoorW.PrintMore
attribute [local go_sem] max2_int min2_int max_two min_two max_three min_three max_four min_four
set_option linter.unusedVariables false
set_option linter.unusedSimpArgs false
def errW : Option Int → Value
 | none => .nilIface
 | some c => .iface 0 (.int .i64 c)
theorem errW_none : errW none = .nilIface := rfl
theorem errW_some (c : Int) : errW (some c) = .iface 0 (.int .i64 c) := rfl
structure S60 where
 f0 : Int
 f1 : Int
def z60 : S60 := ⟨(0 : Int), (0 : Int)⟩
def k60 : Kd S60 := Kd.iso (Kd.pair (Kd.int .i64) (Kd.int .i64)) (fun x : S60 => (x.f0, x.f1))
theorem k60_open {w : World} {x : S60} {cs : List Value} (h : k60.K w x cs) : cs = [.int .i64 x.f0, .int .i64 x.f1] := by
 obtain ⟨_, _, rfl, rfl, rfl⟩ := h
 exact rfl
theorem k60_openM {w : World} {base : Nat} {ok : Nat → Prop} {x : S60} {cs : List Value} (h : k60.M w base ok x cs) : cs = [.int .i64 x.f0, .int .i64 x.f1] := by
 obtain ⟨_, _, rfl, rfl, rfl⟩ := h
 exact rfl
theorem k60_mk (w : World) (x : S60)  : k60.K w x [.int .i64 x.f0, .int .i64 x.f1] := ⟨[.int .i64 x.f0], [.int .i64 x.f1], rfl, rfl, rfl⟩
theorem k60_mkM (w : World) (base : Nat) (ok : Nat → Prop) (x : S60)  : k60.M w base ok x [.int .i64 x.f0, .int .i64 x.f1] := ⟨[.int .i64 x.f0], [.int .i64 x.f1], rfl, rfl, rfl⟩
def rd_T60 (xs : List S60) (i : Int) : S60 := xs.getD i.toNat z60
theorem at_T60 {w : World} {A : Option Addr} {n : Nat} {xs : List S60} (h : Kd.C k60 w A n xs) (i : Int) (h0 : 0 ≤ i) (h1 : i < n) : ∃ ad , A = some ad ∧ w.cell? (ad.add (i.toNat * 2)) = some (.int .i64 (rd_T60 xs i).f0) ∧ w.cell? ⟨(ad.add (i.toNat * 2)).block, (ad.add (i.toNat * 2)).off + 1, none⟩ = some (.int .i64 (rd_T60 xs i).f1) := by
 obtain ⟨ad, c, e, _, hK, hc0⟩ := Kd.C_get h z60 i h0 h1
 have hc : ∀ j u, c[j]? = some u → w.cell? (ad.add (i.toNat * 2 + j)) = some u := hc0
 obtain rfl := k60_open hK
 exact ⟨ad, e, hc 0 _ rfl, by rw [← add_field _ _ 1 (by omega)]; exact hc 1 _ rfl⟩
def rd_L2 (xs : List (List S60)) (i : Int) : (List S60) := xs.getD i.toNat ([] : List S60)
theorem at_L2 {w : World} {A : Option Addr} {n : Nat} {xs : List (List S60)} (h : Kd.C (Kd.slice 60 k60) w A n xs) (i : Int) (h0 : 0 ≤ i) (h1 : i < n) : ∃ ad A0 c0, A = some ad ∧ w.cell? (ad.add i.toNat) = some (.slice A0 (rd_L2 xs i).length c0) ∧ (rd_L2 xs i).length ≤ c0 ∧ k60.C w A0 (rd_L2 xs i).length (rd_L2 xs i) := by
 obtain ⟨ad, c, e, _, hK, hc0⟩ := Kd.C_get h ([] : List S60) i h0 h1
 have hc : ∀ j u, c[j]? = some u → w.cell? (ad.add (i.toNat * 1 + j)) = some u := hc0
 obtain ⟨A0, c0, rfl, l0, g0⟩ := hK
 exact ⟨ad, A0, c0, e, by have hq := hc 0 _ rfl; rwa [Nat.mul_one, Nat.add_zero] at hq, l0, g0⟩
structure S48 where
 f0 : Int
 f1 : (List S60)
def z48 : S48 := ⟨(0 : Int), ([] : List S60)⟩
def k48 : Kd S48 := Kd.iso (Kd.pair (Kd.int .i64) (Kd.slice 60 k60)) (fun x : S48 => (x.f0, x.f1))
theorem k48_open {w : World} {x : S48} {cs : List Value} (h : k48.K w x cs) : ∃ A1 c1, cs = [.int .i64 x.f0, .slice A1 x.f1.length c1] ∧ x.f1.length ≤ c1 ∧ k60.C w A1 x.f1.length x.f1 := by
 obtain ⟨_, _, rfl, rfl, ⟨A1, c1, rfl, l1, g1⟩⟩ := h
 exact ⟨A1, c1, rfl, l1, g1⟩
theorem k48_openM {w : World} {base : Nat} {ok : Nat → Prop} {x : S48} {cs : List Value} (h : k48.M w base ok x cs) : ∃ v1, cs = [.int .i64 x.f0, v1] ∧ k60.R 60 w base ok v1 x.f1 := by
 obtain ⟨_, _, rfl, rfl, ⟨v1, rfl, g1⟩⟩ := h
 exact ⟨v1, rfl, g1⟩
theorem k48_mk (w : World) (x : S48) {A1 : Option Addr} {c1 : Nat} (l1 : x.f1.length ≤ c1) (g1 : k60.C w A1 x.f1.length x.f1) : k48.K w x [.int .i64 x.f0, .slice A1 x.f1.length c1] := ⟨[.int .i64 x.f0], [.slice A1 x.f1.length c1], rfl, rfl, ⟨A1, c1, rfl, l1, g1⟩⟩
theorem k48_mkM (w : World) (base : Nat) (ok : Nat → Prop) (x : S48) {v1 : Value} (g1 : k60.R 60 w base ok v1 x.f1) : k48.M w base ok x [.int .i64 x.f0, v1] := ⟨[.int .i64 x.f0], [v1], rfl, rfl, ⟨v1, rfl, g1⟩⟩
def rd_T48 (xs : List S48) (i : Int) : S48 := xs.getD i.toNat z48
theorem at_T48 {w : World} {A : Option Addr} {n : Nat} {xs : List S48} (h : Kd.C k48 w A n xs) (i : Int) (h0 : 0 ≤ i) (h1 : i < n) : ∃ ad A1 c1, A = some ad ∧ w.cell? (ad.add (i.toNat * 2)) = some (.int .i64 (rd_T48 xs i).f0) ∧ w.cell? ⟨(ad.add (i.toNat * 2)).block, (ad.add (i.toNat * 2)).off + 1, none⟩ = some (.slice A1 (rd_T48 xs i).f1.length c1) ∧ (rd_T48 xs i).f1.length ≤ c1 ∧ k60.C w A1 (rd_T48 xs i).f1.length (rd_T48 xs i).f1 := by
 obtain ⟨ad, c, e, _, hK, hc0⟩ := Kd.C_get h z48 i h0 h1
 have hc : ∀ j u, c[j]? = some u → w.cell? (ad.add (i.toNat * 2 + j)) = some u := hc0
 obtain ⟨A1, c1, rfl, l1, g1⟩ := k48_open hK
 exact ⟨ad, A1, c1, e, hc 0 _ rfl, by rw [← add_field _ _ 1 (by omega)]; exact hc 1 _ rfl, l1, g1⟩
def rd_L4 (xs : List (List Int)) (i : Int) : (List Int) := xs.getD i.toNat ([] : List Int)
theorem at_L4 {w : World} {A : Option Addr} {n : Nat} {xs : List (List Int)} (h : Kd.C (Kd.slice 3 (Kd.int .i64)) w A n xs) (i : Int) (h0 : 0 ≤ i) (h1 : i < n) : ∃ ad A0 c0, A = some ad ∧ w.cell? (ad.add i.toNat) = some (.slice A0 (rd_L4 xs i).length c0) ∧ (rd_L4 xs i).length ≤ c0 ∧ (Kd.int .i64).C w A0 (rd_L4 xs i).length (rd_L4 xs i) := by
 obtain ⟨ad, c, e, _, hK, hc0⟩ := Kd.C_get h ([] : List Int) i h0 h1
 have hc : ∀ j u, c[j]? = some u → w.cell? (ad.add (i.toNat * 1 + j)) = some u := hc0
 obtain ⟨A0, c0, rfl, l0, g0⟩ := hK
 exact ⟨ad, A0, c0, e, by have hq := hc 0 _ rfl; rwa [Nat.mul_one, Nat.add_zero] at hq, l0, g0⟩
structure S50 where
 f0 : Int
 f1 : (List Int)
 f2 : Bool
def z50 : S50 := ⟨(0 : Int), ([] : List Int), false⟩
def k50 : Kd S50 := Kd.iso (Kd.pair (Kd.int .i64) (Kd.pair (Kd.slice 3 (Kd.int .i64)) Kd.bool)) (fun x : S50 => (x.f0, x.f1, x.f2))
theorem k50_open {w : World} {x : S50} {cs : List Value} (h : k50.K w x cs) : ∃ A1 c1, cs = [.int .i64 x.f0, .slice A1 x.f1.length c1, .bool x.f2] ∧ x.f1.length ≤ c1 ∧ (Kd.int .i64).C w A1 x.f1.length x.f1 := by
 obtain ⟨_, _, rfl, rfl, ⟨_, _, rfl, ⟨A1, c1, rfl, l1, g1⟩, rfl⟩⟩ := h
 exact ⟨A1, c1, rfl, l1, g1⟩
theorem k50_openM {w : World} {base : Nat} {ok : Nat → Prop} {x : S50} {cs : List Value} (h : k50.M w base ok x cs) : ∃ v1, cs = [.int .i64 x.f0, v1, .bool x.f2] ∧ (Kd.int .i64).R 3 w base ok v1 x.f1 := by
 obtain ⟨_, _, rfl, rfl, ⟨_, _, rfl, ⟨v1, rfl, g1⟩, rfl⟩⟩ := h
 exact ⟨v1, rfl, g1⟩
theorem k50_mk (w : World) (x : S50) {A1 : Option Addr} {c1 : Nat} (l1 : x.f1.length ≤ c1) (g1 : (Kd.int .i64).C w A1 x.f1.length x.f1) : k50.K w x [.int .i64 x.f0, .slice A1 x.f1.length c1, .bool x.f2] := ⟨[.int .i64 x.f0], [.slice A1 x.f1.length c1, .bool x.f2], rfl, rfl, ⟨[.slice A1 x.f1.length c1], [.bool x.f2], rfl, ⟨A1, c1, rfl, l1, g1⟩, rfl⟩⟩
theorem k50_mkM (w : World) (base : Nat) (ok : Nat → Prop) (x : S50) {v1 : Value} (g1 : (Kd.int .i64).R 3 w base ok v1 x.f1) : k50.M w base ok x [.int .i64 x.f0, v1, .bool x.f2] := ⟨[.int .i64 x.f0], [v1, .bool x.f2], rfl, rfl, ⟨[v1], [.bool x.f2], rfl, ⟨v1, rfl, g1⟩, rfl⟩⟩
def rd_T50 (xs : List S50) (i : Int) : S50 := xs.getD i.toNat z50
theorem at_T50 {w : World} {A : Option Addr} {n : Nat} {xs : List S50} (h : Kd.C k50 w A n xs) (i : Int) (h0 : 0 ≤ i) (h1 : i < n) : ∃ ad A1 c1, A = some ad ∧ w.cell? (ad.add (i.toNat * 3)) = some (.int .i64 (rd_T50 xs i).f0) ∧ w.cell? ⟨(ad.add (i.toNat * 3)).block, (ad.add (i.toNat * 3)).off + 1, none⟩ = some (.slice A1 (rd_T50 xs i).f1.length c1) ∧ w.cell? ⟨(ad.add (i.toNat * 3)).block, (ad.add (i.toNat * 3)).off + 2, none⟩ = some (.bool (rd_T50 xs i).f2) ∧ (rd_T50 xs i).f1.length ≤ c1 ∧ (Kd.int .i64).C w A1 (rd_T50 xs i).f1.length (rd_T50 xs i).f1 := by
 obtain ⟨ad, c, e, _, hK, hc0⟩ := Kd.C_get h z50 i h0 h1
 have hc : ∀ j u, c[j]? = some u → w.cell? (ad.add (i.toNat * 3 + j)) = some u := hc0
 obtain ⟨A1, c1, rfl, l1, g1⟩ := k50_open hK
 exact ⟨ad, A1, c1, e, hc 0 _ rfl, by rw [← add_field _ _ 1 (by omega)]; exact hc 1 _ rfl, by rw [← add_field _ _ 2 (by omega)]; exact hc 2 _ rfl, l1, g1⟩
def slices_Index_bool_bool.l0 : Nat → List Bool → Bool → Int → Int → Option (Int)
 | 0, _, _, _, _ => none
 | k + 1, x0, x1, x7, x8 => if x8 < x7 then (if 0 ≤ x8 then (if x8 < (x0.length : Int) then (if (x1 == (rdOf false x0 x8)) = true then (some x8) else (slices_Index_bool_bool.l0 k x0 x1 x7 (wrap64 (x8 + 1)))) else (none)) else (none)) else (some (-1))
def slices_Index_bool_bool.f (k : Nat) (l0 : List Bool) (a1 : Bool) : Option (Int) := slices_Index_bool_bool.l0 k l0 a1 (l0.length : Int) 0
set_option maxHeartbeats 8000000 in
set_option maxRecDepth 100000 in
theorem slices_Index_bool_bool.calls (k : Nat) (A0 : Option Addr) (c0 : Nat) (l0 : List Bool) (a1 : Bool) (r : Int) (w : World) (hr0 : Kd.C Kd.bool w A0 l0.length l0) (hc0 : l0.length ≤ c0) (h : slices_Index_bool_bool.f k l0 a1 = some r) :
  Calls Tryd.prog 112 #[.slice A0 l0.length c0, .bool a1] w fun e w' => e = .returned (.int .i64 r) ∧ Drawn0 w w' := by
 have HR0 := Aside0.mk hr0; have HC0 := Aside0.mk hc0; clear hr0 hc0
 have H : (slices_Index_bool_bool.l0 k l0 a1 (l0.length : Int) 0) = some r := h
 clear h; have H' := Aside0.mk H; clear H
 go_enter Tryd.func112, Tryd.ntmps112
 go_wp2
 go_loopg [8] k (fun kq v8 w' => ∃ (x8_1 : Int), v8 = .int .i64 x8_1 ∧ Aside0 (slices_Index_bool_bool.l0 kq l0 a1 (l0.length : Int) x8_1 = some r) ∧ Aside0 (kq ≤ k) ∧ Drawn0 w w')
 case atStart => exact ⟨(0), sm, H', ⟨Nat.le_refl _⟩, by repeat (first | exact Drawn0.refl _ | apply Drawn0.step)⟩
 case round =>
  clear H'; (try clear c1); (try clear p2); obtain ⟨x8_1, rfl, HA, HK1, ⟨m1, rfl⟩⟩ := hrel
  cases gk with
  | zero => exact absurd HA.out (by simp [slices_Index_bool_bool.l0])
  | succ k1 =>
   have H := HA.out; clear HA
   simp only [slices_Index_bool_bool.l0] at H
   by_cases c3 : x8_1 < (l0.length : Int)
   ·rw [if_pos c3] at H; have c3b0 := decide_eq_true c3; clear c3
    by_cases c4 : 0 ≤ x8_1
    ·rw [if_pos c4] at H; have c4b0 := decide_eq_true c4; clear c4
     by_cases c5 : x8_1 < (l0.length : Int)
     ·rw [if_pos c5] at H; have c5b0 := decide_eq_true c5; clear c5
      by_cases c6 : (a1 == (rdOf false l0 x8_1)) = true
      ·rw [if_pos c6] at H
       have c6b0 : (a1 == (rdOf false l0 x8_1)) = true := c6
       (try (have c6b1 : decide (a1 = (rdOf false l0 x8_1)) = true := by simpa using c6))
       (try (have c6b2 : (a1 == (rdOf false l0 x8_1)) = true := by simpa using c6))
       clear c6; obtain rfl := Option.some.inj H
       have p128 : 0 ≤ (x8_1 : Int) := od
       have q128 : x8_1 < (l0.length : Int) := od
       obtain ⟨ad128, e128, hx128_0⟩ := Kd.at_bool HR0.out x8_1 p128 q128
       cases e128
       replace p128 := eq_true p128; replace q128 := eq_true q128
       go_wp2
       go_ret
       exact ⟨sm, by repeat (first | exact Drawn0.refl _ | apply Drawn0.step)⟩
      ·rw [if_neg c6] at H
       have c6b0 : (a1 == (rdOf false l0 x8_1)) = false := by simpa using c6
       (try (have c6b1 : decide (a1 = (rdOf false l0 x8_1)) = false := by simpa using c6))
       (try (have c6b2 : (a1 == (rdOf false l0 x8_1)) = false := by simpa using c6))
       (try (have c6b3 : ¬ (a1 = (rdOf false l0 x8_1)) := by simpa using c6))
       clear c6; have H' := Aside0.mk H; clear H
       have p128 : 0 ≤ (x8_1 : Int) := od
       have q128 : x8_1 < (l0.length : Int) := od
       obtain ⟨ad128, e128, hx128_0⟩ := Kd.at_bool HR0.out x8_1 p128 q128
       cases e128
       replace p128 := eq_true p128; replace q128 := eq_true q128
       go_wp2
       go_roundg k1
       case measure => have := HK1.out; omega
       case rel => exact ⟨(wrap64 (x8_1 + 1)), sm, H', ⟨lo HK1⟩, by repeat (first | exact Drawn0.refl _ | apply Drawn0.step)⟩
     ·rw [if_neg c5] at H
      exact absurd H (by simp)
    ·rw [if_neg c4] at H
     exact absurd H (by simp)
   ·rw [if_neg c3] at H
    have c3b0 : decide (x8_1 < (l0.length : Int)) = false := decide_eq_false c3
    clear c3; obtain rfl := Option.some.inj H
    go_wp2
    go_ret
    exact ⟨sm, by repeat (first | exact Drawn0.refl _ | apply Drawn0.step)⟩
def slices_Contains_bool_bool.f (k : Nat) (l0 : List Bool) (a1 : Bool) : Option (Bool) := (slices_Index_bool_bool.f k l0 a1).bind fun t129 => (some (decide (t129 ≥ 0)))
set_option maxHeartbeats 8000000 in
set_option maxRecDepth 100000 in
theorem slices_Contains_bool_bool.calls (k : Nat) (A0 : Option Addr) (c0 : Nat) (l0 : List Bool) (a1 : Bool) (r : Bool) (w : World) (hr0 : Kd.C Kd.bool w A0 l0.length l0) (hc0 : l0.length ≤ c0) (h : slices_Contains_bool_bool.f k l0 a1 = some r) :
  Calls Tryd.prog 104 #[.slice A0 l0.length c0, .bool a1] w fun e w' => e = .returned (.bool r) ∧ Drawn0 w w' := by
 have HR0 := Aside0.mk hr0; have HC0 := Aside0.mk hc0; clear hr0 hc0
 have H : ((slices_Index_bool_bool.f k l0 a1).bind fun t129 => (some (decide (t129 ≥ 0)))) = some r := h
 clear h; obtain ⟨t129, A3, H⟩ := ob H; obtain rfl := Option.some.inj H
 go_enter Tryd.func104, Tryd.ntmps104
 go_wp2_with (first | ((with_reducible refine gate_callee (f := 112) rfl ?_); refine gl (some 7) Tryd.func112 #[.slice A0 l0.length c0, .bool a1] ?_; (with_reducible refine (slices_Index_bool_bool.calls k _ _ l0 a1 t129 _ ?side1 ?side2 A3.out).mono ?_); (case side1 => repeat (first | exact HR0.out | (with_reducible refine Kd.C_alloc ?_ _) | (with_reducible refine Kd.C_drewN ?_ _) | (with_reducible refine Kd.C_drew ?_))); (case side2 => exact HC0.out); rintro e w' ⟨rfl, ⟨nd, rfl⟩⟩; refine ⟨_, rfl, ?_⟩))
 go_ret
 exact ⟨sm, by repeat (first | exact Drawn0.refl _ | apply Drawn0.step)⟩
def plank_least_int.l0 : Nat → Int → List Int → Int → Int → Option (Int)
 | 0, _, _, _, _ => none
 | k + 1, x0, x7, x8, x9 => if x9 < x8 then (if 0 ≤ x9 then (if x9 < (x7.length : Int) then (plank_least_int.l0 k (mn x0 (rd x7 x9)) x7 x8 (wrap64 (x9 + 1))) else (none)) else (none)) else (some x0)
def plank_least_int.f (k : Nat) (a0 : Int) (l1 : List Int) : Option (Int) := plank_least_int.l0 k a0 l1 (l1.length : Int) 0
set_option maxHeartbeats 8000000 in
set_option maxRecDepth 100000 in
theorem plank_least_int.calls (k : Nat) (a0 : Int) (A1 : Option Addr) (c1 : Nat) (l1 : List Int) (r : Int) (w : World) (hr1 : Kd.C (Kd.int .i64) w A1 l1.length l1) (hc1 : l1.length ≤ c1) (h : plank_least_int.f k a0 l1 = some r) :
  Calls Tryd.prog 93 #[.int .i64 a0, .slice A1 l1.length c1] w fun e w' => e = .returned (.int .i64 r) ∧ Below w.heap.size w w' := by
 have HR1 := Aside0.mk hr1; have HC1 := Aside0.mk hc1; clear hr1 hc1; have HB := Aside0.mk (Below.refl w.heap.size w)
 have H : (plank_least_int.l0 k a0 l1 (l1.length : Int) 0) = some r := h
 clear h; have H' := Aside0.mk H; clear H
 go_enter Tryd.func93, Tryd.ntmps93
 go_wp2
 go_loopg [0, 9] k (fun kq v0 v9 w' => ∃ (x0_1 : Int) (x9_1 : Int), v0 = .int .i64 x0_1 ∧ v9 = .int .i64 x9_1 ∧ Aside0 (plank_least_int.l0 kq x0_1 l1 (l1.length : Int) x9_1 = some r) ∧ Aside0 (kq ≤ k) ∧ Aside0 (Below w.heap.size w w'))
 case atStart => exact ⟨(a0), (0), sm, sm, H', ⟨Nat.le_refl _⟩, ⟨bl⟩⟩
 case round =>
  clear H'; (try clear c1); (try clear p2); obtain ⟨x0_1, x9_1, rfl, rfl, HA, HK1, HB⟩ := hrel
  cases gk with
  | zero => exact absurd HA.out (by simp [plank_least_int.l0])
  | succ k1 =>
   have H := HA.out; clear HA
   simp only [plank_least_int.l0] at H
   by_cases c3 : x9_1 < (l1.length : Int)
   ·rw [if_pos c3] at H; have c3b0 := decide_eq_true c3; clear c3
    by_cases c4 : 0 ≤ x9_1
    ·rw [if_pos c4] at H; have c4b0 := decide_eq_true c4; clear c4
     by_cases c5 : x9_1 < (l1.length : Int)
     ·rw [if_pos c5] at H; have c5b0 := decide_eq_true c5; clear c5
      obtain ⟨ji6, hji6⟩ : ∃ j_ : Int, (mn x0_1 (rd l1 x9_1)) = j_ := ⟨_, rfl⟩
      replace H : (plank_least_int.l0 k1 ji6 l1 (l1.length : Int) (wrap64 (x9_1 + 1))) = some r := by first | (rw [hji6] at H; exact H) | (simp only [hji6] at H ⊢; exact H)
      have hji6_ : (if (rd l1 x9_1) < x0_1 then (rd l1 x9_1) else x0_1) = ji6 := hji6
      have H' := Aside0.mk H; clear H
      have p130 : 0 ≤ (x9_1 : Int) := od
      have q130 : x9_1 < (l1.length : Int) := od
      obtain ⟨ad130, e130, hx130_0⟩ := Kd.at_int HR1.out x9_1 p130 q130
      cases e130
      replace hx130_0 := cm HB hx130_0; replace p130 := eq_true p130; replace q130 := eq_true q130
      go_wp2
      go_roundg k1
      case measure => have := HK1.out; omega
      case rel => exact ⟨(ji6), (wrap64 (x9_1 + 1)), (by first | rfl | (simp; done) | (simp only [← hji6] <;> (first | rfl | simp)) | (simp [*]; done)), sm, H', ⟨lo HK1⟩, ⟨bl⟩⟩
     ·rw [if_neg c5] at H
      exact absurd H (by simp)
    ·rw [if_neg c4] at H
     exact absurd H (by simp)
   ·rw [if_neg c3] at H
    have c3b0 : decide (x9_1 < (l1.length : Int)) = false := decide_eq_false c3
    clear c3; obtain rfl := Option.some.inj H
    go_wp2
    go_ret
    exact ⟨by first | rfl | (simp [errW_none, errW_some] <;> rfl) | (simp [*, errW_none, errW_some] <;> rfl), bl⟩
def plank_on.f (a0 : Int) (a1 : Int) (a2 : Int) : Option (Bool) := if a1 ≤ a0 then (some (decide (a0 ≤ a2))) else (some false)
set_option maxHeartbeats 8000000 in
set_option maxRecDepth 100000 in
theorem plank_on.calls (a0 : Int) (a1 : Int) (a2 : Int) (r : Bool) (w : World) (h : plank_on.f a0 a1 a2 = some r) :
  Calls Tryd.prog 70 #[.int .i64 a0, .int .i64 a1, .int .i64 a2] w fun e w' => e = .returned (.bool r) ∧ Drawn0 w w' := by
 have H : (if a1 ≤ a0 then (some (decide (a0 ≤ a2))) else (some false)) = some r := h
 clear h
 by_cases c4 : a1 ≤ a0
 ·rw [if_pos c4] at H; have c4b0 := decide_eq_true c4; clear c4; obtain rfl := Option.some.inj H
  go_enter Tryd.func70, Tryd.ntmps70
  go_wp2
  go_ret
  exact ⟨sm, by repeat (first | exact Drawn0.refl _ | apply Drawn0.step)⟩
 ·rw [if_neg c4] at H
  have c4b0 : decide (a1 ≤ a0) = false := decide_eq_false c4
  clear c4; obtain rfl := Option.some.inj H
  go_enter Tryd.func70, Tryd.ntmps70
  go_wp2
  go_ret
  exact ⟨sm, by repeat (first | exact Drawn0.refl _ | apply Drawn0.step)⟩
mutual
def plank_isWood.j0 : Nat → Bool → Int → List (S60) → Option (Bool)
 | 0, _, _, _ => none
 | k + 1, x3, x102000, x102001 => plank_isWood.l0 k x3 x102001 (x102001.length : Int) 0 x102000 x102001
def plank_isWood.l0 : Nat → Bool → List (S60) → Int → Int → Int → List (S60) → Option (Bool)
 | 0, _, _, _, _, _, _ => none
 | k + 1, x3, x16, x17, x18, x102000, x102001 => if x18 < x17 then (if 0 ≤ x18 then (if x18 < (x16.length : Int) then (if x3 = true then ((plank_on.f ((rd_T60 x16 x18).f0) 0 ((rd_T60 x16 x18).f1)).bind fun t105 => (if t105 = true then (if ((rd_T60 x16 x18).f1) < x102000 then (plank_isWood.l0 k (decide ((wrap64 (((rd_T60 x16 x18).f1) - ((rd_T60 x16 x18).f0))) ≤ 6)) x16 x17 (wrap64 (x18 + 1)) x102000 x102001) else (plank_isWood.l0 k false x16 x17 (wrap64 (x18 + 1)) x102000 x102001)) else (plank_isWood.l0 k false x16 x17 (wrap64 (x18 + 1)) x102000 x102001))) else (plank_isWood.l0 k false x16 x17 (wrap64 (x18 + 1)) x102000 x102001)) else (none)) else (none)) else (some x3)
end
def plank_isWood.f (k : Nat) (a0_0 : Int) (l0_1 : List (S60)) : Option (Bool) := (plank_on.f a0_0 1 16).bind fun t102 => (if t102 = true then (plank_isWood.j0 k (decide ((l0_1.length : Int) ≤ 3)) a0_0 l0_1) else (plank_isWood.j0 k false a0_0 l0_1))
set_option maxHeartbeats 8000000 in
set_option maxRecDepth 100000 in
theorem plank_isWood.calls (k : Nat) (a0_0 : Int) (A0_1 : Option Addr) (c0_1 : Nat) (l0_1 : List (S60)) (r : Bool) (w : World) (hr0_1 : Kd.C k60 w A0_1 l0_1.length l0_1) (hc0_1 : l0_1.length ≤ c0_1) (h : plank_isWood.f k a0_0 l0_1 = some r) :
  Calls Tryd.prog 71 #[.agg #[.int .i64 a0_0, .slice A0_1 l0_1.length c0_1]] w fun e w' => e = .returned (.bool r) ∧ Below w.heap.size w w' := by
 have hu48 := Tryd.underlying48; have hu60 := Tryd.underlying60; have HR0_1 := Aside0.mk hr0_1; have HC0_1 := Aside0.mk hc0_1; clear hr0_1 hc0_1; have HB := Aside0.mk (Below.refl w.heap.size w)
 have H : ((plank_on.f a0_0 1 16).bind fun t102 => (if t102 = true then (plank_isWood.j0 k (decide ((l0_1.length : Int) ≤ 3)) a0_0 l0_1) else (plank_isWood.j0 k false a0_0 l0_1))) = some r := h
 clear h; have HC2 := Aside0.mk H; clear H
 go_enter Tryd.func71, Tryd.ntmps71
 go_upto_region 1 with (first | ((with_reducible refine gate_dst (N := 1) rfl ?_); (try (refine gate_guard (by rfl) ?_; dsimp only)); refine bx 1 #[.int .i64 a0_0, .slice A0_1 l0_1.length c0_1] 48 ?_; intro gb101 hg w3 hbox hb; have BK101 := Aside0.mk hbox; have GW101 := Aside0.mk ((by rw [hg]; exact (below_size bl) : w.heap.size ≤ gb101)); have GE101 := Aside0.mk ((by rw [hg]; exact (below_size bl) : w.heap.size ≤ gb101)); replace HB := Aside0.mk (below_step bl hb); clear hb hbox hg))
 (try simp only [Act.put, List.setIfInBounds_toArray, List.set_cons_zero, List.set_cons_succ])
 go_cut [3] (fun v3 wc => ∃ (kq : Nat) (x3_1 : Bool), v3 = .bool x3_1 ∧ Aside0 (plank_isWood.j0 kq x3_1 a0_0 l0_1 = some r) ∧ Aside0 (kq ≤ k) ∧ Aside0 (wc.heap[gb101]? = some (.cells #[.int .i64 a0_0, (.slice A0_1 l0_1.length c0_1)] 48 (0, 0))) ∧ Aside0 (Below w.heap.size w wc))
 case first =>
  have H := HC2.out; clear HC2; obtain ⟨t102, A4, H⟩ := ob H
  by_cases c5 : t102 = true
  ·subst c5; rw [if_pos rfl] at H; have H' := Aside0.mk H; clear H; obtain ⟨hcz6_0, hcz6_1, hfz6_0, hfz6_1⟩ := b2 (w := w3) BK101
   go_wp2_with (first | ((with_reducible refine gate_callee (f := 70) rfl ?_); refine gl (some 8) Tryd.func70 #[.int .i64 a0_0, .int .i64 1, .int .i64 16] ?_; (with_reducible refine (plank_on.calls a0_0 1 16 true _ A4.out).mono ?_); rintro e w' ⟨rfl, ⟨nd, rfl⟩⟩; refine ⟨_, rfl, ?_⟩))
   go_meet
   case rel => exact ⟨_, (decide ((l0_1.length : Int) ≤ 3)), sm, H', ⟨by first | omega | exact Nat.le_refl _⟩, ⟨bk⟩, ⟨bl⟩⟩
  ·replace c5 := Bool.eq_false_iff.mpr c5; subst c5
   rw [if_neg (show ¬ (false = true) by decide)] at H
   have H' := Aside0.mk H; clear H; obtain ⟨hcz7_0, hcz7_1, hfz7_0, hfz7_1⟩ := b2 (w := w3) BK101
   go_wp2_with (first | ((with_reducible refine gate_callee (f := 70) rfl ?_); refine gl (some 8) Tryd.func70 #[.int .i64 a0_0, .int .i64 1, .int .i64 16] ?_; (with_reducible refine (plank_on.calls a0_0 1 16 false _ A4.out).mono ?_); rintro e w' ⟨rfl, ⟨nd, rfl⟩⟩; refine ⟨_, rfl, ?_⟩))
   go_meet
   case rel => exact ⟨_, (false), sm, H', ⟨by first | omega | exact Nat.le_refl _⟩, ⟨bk⟩, ⟨bl⟩⟩
 case rest =>
  clear HC2; (try clear p2); (try clear c5); (try clear c7); (try clear hcz6_0); (try clear hcz6_1); (try clear hcz7_0); (try clear hcz7_1); (try clear hfz6_0); (try clear hfz6_1); (try clear hfz7_0); (try clear hfz7_1); obtain ⟨kq, x3_1, rfl, HA, HJ1, BK101, HB⟩ := hcut
  cases kq with
  | zero => exact absurd HA.out (by simp [plank_isWood.j0])
  | succ kj1 =>
   have H := HA.out; clear HA
   simp only [plank_isWood.j0] at H
   have H' := Aside0.mk H; clear H; obtain ⟨hcz8_0, hcz8_1, hfz8_0, hfz8_1⟩ := b2 (w := wc) BK101
   go_wp2
   go_loopg [3, 18] kj1 (fun kq v3 v18 w' => ∃ (x3_2 : Bool) (x18_2 : Int), v3 = .bool x3_2 ∧ v18 = .int .i64 x18_2 ∧ Aside0 (plank_isWood.l0 kq x3_2 l0_1 (l0_1.length : Int) x18_2 a0_0 l0_1 = some r) ∧ Aside0 (kq ≤ kj1) ∧ Aside0 (w'.heap[gb101]? = some (.cells #[.int .i64 a0_0, (.slice A0_1 l0_1.length c0_1)] 48 (0, 0))) ∧ Aside0 (Below w.heap.size w w'))
   case atStart => exact ⟨(x3_1), (0), sm, sm, H', ⟨Nat.le_refl _⟩, ⟨bk⟩, ⟨bl⟩⟩
   case round =>
    clear H'; (try clear p2); (try clear c5); (try clear c7); (try clear hcz6_0); (try clear hcz6_1); (try clear hcz7_0); (try clear hcz7_1); (try clear hcz8_0); (try clear hcz8_1); (try clear hfz6_0); (try clear hfz6_1); (try clear hfz7_0); (try clear hfz7_1); (try clear hfz8_0); (try clear hfz8_1); obtain ⟨x3_2, x18_2, rfl, rfl, HA, HK2, BK101, HB⟩ := hrel
    cases gk with
    | zero => exact absurd HA.out (by simp [plank_isWood.l0])
    | succ k2 =>
     have H := HA.out; clear HA
     simp only [plank_isWood.l0] at H
     by_cases c9 : x18_2 < (l0_1.length : Int)
     ·rw [if_pos c9] at H; have c9b0 := decide_eq_true c9; clear c9
      by_cases c10 : 0 ≤ x18_2
      ·rw [if_pos c10] at H; have c10b0 := decide_eq_true c10; clear c10
       by_cases c11 : x18_2 < (l0_1.length : Int)
       ·rw [if_pos c11] at H; have c11b0 := decide_eq_true c11; clear c11
        by_cases c12 : x3_2 = true
        ·subst c12; rw [if_pos rfl] at H; obtain ⟨t105, A13, H⟩ := ob H
         by_cases c14 : t105 = true
         ·subst c14; rw [if_pos rfl] at H
          by_cases c15 : ((rd_T60 l0_1 x18_2).f1) < a0_0
          ·rw [if_pos c15] at H; have c15b0 := decide_eq_true c15; clear c15; have H' := Aside0.mk H; clear H
           have p103 : 0 ≤ (x18_2 : Int) := od
           have q103 : x18_2 < (l0_1.length : Int) := od
           obtain ⟨ad103, e103, hx103_0, hx103_1⟩ := at_T60 HR0_1.out x18_2 p103 q103
           cases e103
           replace hx103_0 := cm HB hx103_0; replace hx103_1 := cm HB hx103_1; replace p103 := eq_true p103; replace q103 := eq_true q103
           go_wp2_with (first | ((with_reducible refine gate_dst (N := 5) rfl ?_); (try (refine gate_guard (by rfl) ?_; dsimp only)); refine bx 5 #[.int .i64 0, .int .i64 0] 60 ?_; intro gb104 hg w16 hbox hb; have BK104 := Aside0.mk hbox; have GW104 := Aside0.mk ((by rw [hg]; exact (below_size bl) : w.heap.size ≤ gb104)); have GE104 := Aside0.mk ((by rw [hg]; exact (below_size bl) : w.heap.size ≤ gb104)); replace HB := Aside0.mk (below_step bl hb); have NB101_104 := nl hg BK101; have NB104_101 := ng hg BK101; replace BK101 := nb BK101 hb; clear hb hbox hg; have hnb17 := NB104_101.out; have hnc17 := NB101_104.out; obtain ⟨hcz18_0, hcz18_1, hfz18_0, hfz18_1⟩ := b2 (w := w16) BK104) | (go_at_call 70; (with_reducible refine (plank_on.calls ((rd_T60 l0_1 x18_2).f0) 0 ((rd_T60 l0_1 x18_2).f1) true _ A13.out).mono ?_); rintro e w' ⟨rfl, ⟨nd, rfl⟩⟩; obtain ⟨hcz19_0, hcz19_1, hfz19_0, hfz19_1⟩ := b2 (w := w16) BK101))
           go_roundg k2
           case measure => have := HJ1.out; have := HK2.out; omega
           case rel => exact ⟨(decide ((wrap64 (((rd_T60 l0_1 x18_2).f1) - ((rd_T60 l0_1 x18_2).f0))) ≤ 6)), (wrap64 (x18_2 + 1)), sm, sm, H', ⟨lp HJ1 HK2⟩, ⟨by (with_reducible repeat (first | refine blk_drewN ?_ _ | refine blk_drew ?_ | refine blk_alloc ?_ _)); refine blk_far ?_ NB101_104.out _; (with_reducible repeat (first | refine blk_drewN ?_ _ | refine blk_drew ?_ | refine blk_alloc ?_ _)); refine blk_far ?_ NB101_104.out _; (with_reducible repeat (first | refine blk_drewN ?_ _ | refine blk_drew ?_ | refine blk_alloc ?_ _)); exact BK101.out⟩, ⟨bl⟩⟩
          ·rw [if_neg c15] at H
           have c15b0 : decide (((rd_T60 l0_1 x18_2).f1) < a0_0) = false := decide_eq_false c15
           clear c15; have H' := Aside0.mk H; clear H
           have p103 : 0 ≤ (x18_2 : Int) := od
           have q103 : x18_2 < (l0_1.length : Int) := od
           obtain ⟨ad103, e103, hx103_0, hx103_1⟩ := at_T60 HR0_1.out x18_2 p103 q103
           cases e103
           replace hx103_0 := cm HB hx103_0; replace hx103_1 := cm HB hx103_1; replace p103 := eq_true p103; replace q103 := eq_true q103
           go_wp2_with (first | ((with_reducible refine gate_dst (N := 5) rfl ?_); (try (refine gate_guard (by rfl) ?_; dsimp only)); refine bx 5 #[.int .i64 0, .int .i64 0] 60 ?_; intro gb104 hg w20 hbox hb; have BK104 := Aside0.mk hbox; have GW104 := Aside0.mk ((by rw [hg]; exact (below_size bl) : w.heap.size ≤ gb104)); have GE104 := Aside0.mk ((by rw [hg]; exact (below_size bl) : w.heap.size ≤ gb104)); replace HB := Aside0.mk (below_step bl hb); have NB101_104 := nl hg BK101; have NB104_101 := ng hg BK101; replace BK101 := nb BK101 hb; clear hb hbox hg; have hnb21 := NB104_101.out; have hnc21 := NB101_104.out; obtain ⟨hcz22_0, hcz22_1, hfz22_0, hfz22_1⟩ := b2 (w := w20) BK104) | (go_at_call 70; (with_reducible refine (plank_on.calls ((rd_T60 l0_1 x18_2).f0) 0 ((rd_T60 l0_1 x18_2).f1) true _ A13.out).mono ?_); rintro e w' ⟨rfl, ⟨nd, rfl⟩⟩; obtain ⟨hcz23_0, hcz23_1, hfz23_0, hfz23_1⟩ := b2 (w := w20) BK101))
           go_roundg k2
           case measure => have := HJ1.out; have := HK2.out; omega
           case rel => exact ⟨(false), (wrap64 (x18_2 + 1)), sm, sm, H', ⟨lp HJ1 HK2⟩, ⟨by (with_reducible repeat (first | refine blk_drewN ?_ _ | refine blk_drew ?_ | refine blk_alloc ?_ _)); refine blk_far ?_ NB101_104.out _; (with_reducible repeat (first | refine blk_drewN ?_ _ | refine blk_drew ?_ | refine blk_alloc ?_ _)); refine blk_far ?_ NB101_104.out _; (with_reducible repeat (first | refine blk_drewN ?_ _ | refine blk_drew ?_ | refine blk_alloc ?_ _)); exact BK101.out⟩, ⟨bl⟩⟩
         ·replace c14 := Bool.eq_false_iff.mpr c14; subst c14
          rw [if_neg (show ¬ (false = true) by decide)] at H
          have H' := Aside0.mk H; clear H
          have p103 : 0 ≤ (x18_2 : Int) := od
          have q103 : x18_2 < (l0_1.length : Int) := od
          obtain ⟨ad103, e103, hx103_0, hx103_1⟩ := at_T60 HR0_1.out x18_2 p103 q103
          cases e103
          replace hx103_0 := cm HB hx103_0; replace hx103_1 := cm HB hx103_1; replace p103 := eq_true p103; replace q103 := eq_true q103
          go_wp2_with (first | ((with_reducible refine gate_dst (N := 5) rfl ?_); (try (refine gate_guard (by rfl) ?_; dsimp only)); refine bx 5 #[.int .i64 0, .int .i64 0] 60 ?_; intro gb104 hg w24 hbox hb; have BK104 := Aside0.mk hbox; have GW104 := Aside0.mk ((by rw [hg]; exact (below_size bl) : w.heap.size ≤ gb104)); have GE104 := Aside0.mk ((by rw [hg]; exact (below_size bl) : w.heap.size ≤ gb104)); replace HB := Aside0.mk (below_step bl hb); have NB101_104 := nl hg BK101; have NB104_101 := ng hg BK101; replace BK101 := nb BK101 hb; clear hb hbox hg; have hnb25 := NB104_101.out; have hnc25 := NB101_104.out; obtain ⟨hcz26_0, hcz26_1, hfz26_0, hfz26_1⟩ := b2 (w := w24) BK104) | (go_at_call 70; (with_reducible refine (plank_on.calls ((rd_T60 l0_1 x18_2).f0) 0 ((rd_T60 l0_1 x18_2).f1) false _ A13.out).mono ?_); rintro e w' ⟨rfl, ⟨nd, rfl⟩⟩))
          go_roundg k2
          case measure => have := HJ1.out; have := HK2.out; omega
          case rel => exact ⟨(false), (wrap64 (x18_2 + 1)), sm, sm, H', ⟨lp HJ1 HK2⟩, ⟨by (with_reducible repeat (first | refine blk_drewN ?_ _ | refine blk_drew ?_ | refine blk_alloc ?_ _)); refine blk_far ?_ NB101_104.out _; (with_reducible repeat (first | refine blk_drewN ?_ _ | refine blk_drew ?_ | refine blk_alloc ?_ _)); refine blk_far ?_ NB101_104.out _; (with_reducible repeat (first | refine blk_drewN ?_ _ | refine blk_drew ?_ | refine blk_alloc ?_ _)); exact BK101.out⟩, ⟨bl⟩⟩
        ·replace c12 := Bool.eq_false_iff.mpr c12; subst c12
         rw [if_neg (show ¬ (false = true) by decide)] at H
         have H' := Aside0.mk H; clear H
         have p103 : 0 ≤ (x18_2 : Int) := od
         have q103 : x18_2 < (l0_1.length : Int) := od
         obtain ⟨ad103, e103, hx103_0, hx103_1⟩ := at_T60 HR0_1.out x18_2 p103 q103
         cases e103
         replace hx103_0 := cm HB hx103_0; replace hx103_1 := cm HB hx103_1; replace p103 := eq_true p103; replace q103 := eq_true q103
         go_wp2_with (first | ((with_reducible refine gate_dst (N := 5) rfl ?_); (try (refine gate_guard (by rfl) ?_; dsimp only)); refine bx 5 #[.int .i64 0, .int .i64 0] 60 ?_; intro gb104 hg w27 hbox hb; have BK104 := Aside0.mk hbox; have GW104 := Aside0.mk ((by rw [hg]; exact (below_size bl) : w.heap.size ≤ gb104)); have GE104 := Aside0.mk ((by rw [hg]; exact (below_size bl) : w.heap.size ≤ gb104)); replace HB := Aside0.mk (below_step bl hb); have NB101_104 := nl hg BK101; have NB104_101 := ng hg BK101; replace BK101 := nb BK101 hb; clear hb hbox hg; have hnb28 := NB104_101.out; have hnc28 := NB101_104.out; obtain ⟨hcz29_0, hcz29_1, hfz29_0, hfz29_1⟩ := b2 (w := w27) BK104))
         go_roundg k2
         case measure => have := HJ1.out; have := HK2.out; omega
         case rel => exact ⟨(false), (wrap64 (x18_2 + 1)), sm, sm, H', ⟨lp HJ1 HK2⟩, ⟨by (with_reducible repeat (first | refine blk_drewN ?_ _ | refine blk_drew ?_ | refine blk_alloc ?_ _)); refine blk_far ?_ NB101_104.out _; (with_reducible repeat (first | refine blk_drewN ?_ _ | refine blk_drew ?_ | refine blk_alloc ?_ _)); refine blk_far ?_ NB101_104.out _; (with_reducible repeat (first | refine blk_drewN ?_ _ | refine blk_drew ?_ | refine blk_alloc ?_ _)); exact BK101.out⟩, ⟨bl⟩⟩
       ·rw [if_neg c11] at H
        exact absurd H (by simp)
      ·rw [if_neg c10] at H
       exact absurd H (by simp)
     ·rw [if_neg c9] at H
      have c9b0 : decide (x18_2 < (l0_1.length : Int)) = false := decide_eq_false c9
      clear c9; obtain rfl := Option.some.inj H
      go_wp2
      go_ret
      exact ⟨by first | rfl | (simp [errW_none, errW_some] <;> rfl) | (simp [*, errW_none, errW_some] <;> rfl), bl⟩
mutual
def plank_isShape.j0 : Nat → Bool → Int → List Int → Bool → Option (Bool)
 | 0, _, _, _, _ => none
 | k + 1, x3, x107000, x107001, x107002 => plank_isShape.l0 k x3 (-1) x107001 (x107001.length : Int) 0 x107000 x107001 x107002
def plank_isShape.l0 : Nat → Bool → Int → List Int → Int → Int → Int → List Int → Bool → Option (Bool)
 | 0, _, _, _, _, _, _, _, _ => none
 | k + 1, x3, x4, x17, x18, x19, x107000, x107001, x107002 => if x19 < x18 then (if 0 ≤ x19 then (if x19 < (x17.length : Int) then (if x3 = true then ((plank_on.f (rd x17 x19) (wrap64 (x4 + 1)) (wrap64 (x107000 - 1))).bind fun t109 => (plank_isShape.l0 k t109 (mx x4 (rd x17 x19)) x17 x18 (wrap64 (x19 + 1)) x107000 x107001 x107002)) else (plank_isShape.l0 k false (mx x4 (rd x17 x19)) x17 x18 (wrap64 (x19 + 1)) x107000 x107001 x107002)) else (none)) else (none)) else (some x3)
end
def plank_isShape.f (k : Nat) (a0_0 : Int) (l0_1 : List Int) (a0_2 : Bool) : Option (Bool) := (plank_on.f a0_0 1 12).bind fun t107 => (if t107 = true then (plank_isShape.j0 k (decide ((l0_1.length : Int) ≤ 3)) a0_0 l0_1 a0_2) else (plank_isShape.j0 k false a0_0 l0_1 a0_2))
set_option maxHeartbeats 8000000 in
set_option maxRecDepth 100000 in
theorem plank_isShape.calls (k : Nat) (a0_0 : Int) (A0_1 : Option Addr) (c0_1 : Nat) (l0_1 : List Int) (a0_2 : Bool) (r : Bool) (w : World) (hr0_1 : Kd.C (Kd.int .i64) w A0_1 l0_1.length l0_1) (hc0_1 : l0_1.length ≤ c0_1) (h : plank_isShape.f k a0_0 l0_1 a0_2 = some r) :
  Calls Tryd.prog 72 #[.agg #[.int .i64 a0_0, .slice A0_1 l0_1.length c0_1, .bool a0_2]] w fun e w' => e = .returned (.bool r) ∧ Below w.heap.size w w' := by
 have hu50 := Tryd.underlying50; have HR0_1 := Aside0.mk hr0_1; have HC0_1 := Aside0.mk hc0_1; clear hr0_1 hc0_1; have HB := Aside0.mk (Below.refl w.heap.size w)
 have H : ((plank_on.f a0_0 1 12).bind fun t107 => (if t107 = true then (plank_isShape.j0 k (decide ((l0_1.length : Int) ≤ 3)) a0_0 l0_1 a0_2) else (plank_isShape.j0 k false a0_0 l0_1 a0_2))) = some r := h
 clear h; have HC2 := Aside0.mk H; clear H
 go_enter Tryd.func72, Tryd.ntmps72
 go_upto_region 1 with (first | ((with_reducible refine gate_dst (N := 1) rfl ?_); (try (refine gate_guard (by rfl) ?_; dsimp only)); refine bx 1 #[.int .i64 a0_0, .slice A0_1 l0_1.length c0_1, .bool a0_2] 50 ?_; intro gb106 hg w3 hbox hb; have BK106 := Aside0.mk hbox; have GW106 := Aside0.mk ((by rw [hg]; exact (below_size bl) : w.heap.size ≤ gb106)); have GE106 := Aside0.mk ((by rw [hg]; exact (below_size bl) : w.heap.size ≤ gb106)); replace HB := Aside0.mk (below_step bl hb); clear hb hbox hg))
 (try simp only [Act.put, List.setIfInBounds_toArray, List.set_cons_zero, List.set_cons_succ])
 go_cut [3] (fun v3 wc => ∃ (kq : Nat) (x3_1 : Bool), v3 = .bool x3_1 ∧ Aside0 (plank_isShape.j0 kq x3_1 a0_0 l0_1 a0_2 = some r) ∧ Aside0 (kq ≤ k) ∧ Aside0 (wc.heap[gb106]? = some (.cells #[.int .i64 a0_0, (.slice A0_1 l0_1.length c0_1), .bool a0_2] 50 (0, 0))) ∧ Aside0 (Below w.heap.size w wc))
 case first =>
  have H := HC2.out; clear HC2; obtain ⟨t107, A4, H⟩ := ob H
  by_cases c5 : t107 = true
  ·subst c5; rw [if_pos rfl] at H; have H' := Aside0.mk H; clear H; obtain ⟨hcz6_0, hcz6_1, hcz6_2, hfz6_0, hfz6_1, hfz6_2⟩ := b3 (w := w3) BK106
   go_wp2_with (first | ((with_reducible refine gate_callee (f := 70) rfl ?_); refine gl (some 9) Tryd.func70 #[.int .i64 a0_0, .int .i64 1, .int .i64 12] ?_; (with_reducible refine (plank_on.calls a0_0 1 12 true _ A4.out).mono ?_); rintro e w' ⟨rfl, ⟨nd, rfl⟩⟩; refine ⟨_, rfl, ?_⟩))
   go_meet
   case rel => exact ⟨_, (decide ((l0_1.length : Int) ≤ 3)), sm, H', ⟨by first | omega | exact Nat.le_refl _⟩, ⟨bk⟩, ⟨bl⟩⟩
  ·replace c5 := Bool.eq_false_iff.mpr c5; subst c5
   rw [if_neg (show ¬ (false = true) by decide)] at H
   have H' := Aside0.mk H; clear H; obtain ⟨hcz7_0, hcz7_1, hcz7_2, hfz7_0, hfz7_1, hfz7_2⟩ := b3 (w := w3) BK106
   go_wp2_with (first | ((with_reducible refine gate_callee (f := 70) rfl ?_); refine gl (some 9) Tryd.func70 #[.int .i64 a0_0, .int .i64 1, .int .i64 12] ?_; (with_reducible refine (plank_on.calls a0_0 1 12 false _ A4.out).mono ?_); rintro e w' ⟨rfl, ⟨nd, rfl⟩⟩; refine ⟨_, rfl, ?_⟩))
   go_meet
   case rel => exact ⟨_, (false), sm, H', ⟨by first | omega | exact Nat.le_refl _⟩, ⟨bk⟩, ⟨bl⟩⟩
 case rest =>
  clear HC2; (try clear p2); (try clear c5); (try clear c7); (try clear hcz6_0); (try clear hcz6_1); (try clear hcz6_2); (try clear hcz7_0); (try clear hcz7_1); (try clear hcz7_2); (try clear hfz6_0); (try clear hfz6_1); (try clear hfz6_2); (try clear hfz7_0); (try clear hfz7_1); (try clear hfz7_2); obtain ⟨kq, x3_1, rfl, HA, HJ1, BK106, HB⟩ := hcut
  cases kq with
  | zero => exact absurd HA.out (by simp [plank_isShape.j0])
  | succ kj1 =>
   have H := HA.out; clear HA
   simp only [plank_isShape.j0] at H
   have H' := Aside0.mk H; clear H; obtain ⟨hcz8_0, hcz8_1, hcz8_2, hfz8_0, hfz8_1, hfz8_2⟩ := b3 (w := wc) BK106
   go_wp2
   go_loopg [3, 4, 19] kj1 (fun kq v3 v4 v19 w' => ∃ (x3_2 : Bool) (x4_2 : Int) (x19_2 : Int), v3 = .bool x3_2 ∧ v4 = .int .i64 x4_2 ∧ v19 = .int .i64 x19_2 ∧ Aside0 (plank_isShape.l0 kq x3_2 x4_2 l0_1 (l0_1.length : Int) x19_2 a0_0 l0_1 a0_2 = some r) ∧ Aside0 (kq ≤ kj1) ∧ Aside0 (w'.heap[gb106]? = some (.cells #[.int .i64 a0_0, (.slice A0_1 l0_1.length c0_1), .bool a0_2] 50 (0, 0))) ∧ Aside0 (Below w.heap.size w w'))
   case atStart => exact ⟨(x3_1), ((-1)), (0), sm, sm, sm, H', ⟨Nat.le_refl _⟩, ⟨bk⟩, ⟨bl⟩⟩
   case round =>
    clear H'; (try clear p2); (try clear c5); (try clear c7); (try clear hcz6_0); (try clear hcz6_1); (try clear hcz6_2); (try clear hcz7_0); (try clear hcz7_1); (try clear hcz7_2); (try clear hcz8_0); (try clear hcz8_1); (try clear hcz8_2); (try clear hfz6_0); (try clear hfz6_1); (try clear hfz6_2); (try clear hfz7_0); (try clear hfz7_1); (try clear hfz7_2); (try clear hfz8_0); (try clear hfz8_1); (try clear hfz8_2); obtain ⟨x3_2, x4_2, x19_2, rfl, rfl, rfl, HA, HK2, BK106, HB⟩ := hrel
    cases gk with
    | zero => exact absurd HA.out (by simp [plank_isShape.l0])
    | succ k2 =>
     have H := HA.out; clear HA
     simp only [plank_isShape.l0] at H
     by_cases c9 : x19_2 < (l0_1.length : Int)
     ·rw [if_pos c9] at H; have c9b0 := decide_eq_true c9; clear c9
      by_cases c10 : 0 ≤ x19_2
      ·rw [if_pos c10] at H; have c10b0 := decide_eq_true c10; clear c10
       by_cases c11 : x19_2 < (l0_1.length : Int)
       ·rw [if_pos c11] at H; have c11b0 := decide_eq_true c11; clear c11
        by_cases c12 : x3_2 = true
        ·subst c12; rw [if_pos rfl] at H; obtain ⟨t109, A13, H⟩ := ob H
         obtain ⟨ji14, hji14⟩ : ∃ j_ : Int, (mx x4_2 (rd l0_1 x19_2)) = j_ := ⟨_, rfl⟩
         replace H : (plank_isShape.l0 k2 t109 ji14 l0_1 (l0_1.length : Int) (wrap64 (x19_2 + 1)) a0_0 l0_1 a0_2) = some r := by first | (rw [hji14] at H; exact H) | (simp only [hji14] at H ⊢; exact H)
         (try rw [hji14] at A13)
         have hji14_ : (if x4_2 < (rd l0_1 x19_2) then (rd l0_1 x19_2) else x4_2) = ji14 := hji14
         have H' := Aside0.mk H; clear H
         have p108 : 0 ≤ (x19_2 : Int) := od
         have q108 : x19_2 < (l0_1.length : Int) := od
         obtain ⟨ad108, e108, hx108_0⟩ := Kd.at_int HR0_1.out x19_2 p108 q108
         cases e108
         replace hx108_0 := cm HB hx108_0; replace p108 := eq_true p108; replace q108 := eq_true q108; obtain ⟨hcz15_0, hcz15_1, hcz15_2, hfz15_0, hfz15_1, hfz15_2⟩ := b3 (w := wr) BK106
         go_wp2_with (first | (go_at_call 70; (with_reducible refine (plank_on.calls (rd l0_1 x19_2) (wrap64 (x4_2 + 1)) (wrap64 (a0_0 - 1)) t109 _ A13.out).mono ?_); rintro e w' ⟨rfl, ⟨nd, rfl⟩⟩))
         go_roundg k2
         case measure => have := HJ1.out; have := HK2.out; omega
         case rel => exact ⟨(t109), (ji14), (wrap64 (x19_2 + 1)), sm, (by first | rfl | (simp; done) | (simp only [← hji14] <;> (first | rfl | simp)) | (simp [*]; done)), sm, H', ⟨lp HJ1 HK2⟩, ⟨bk⟩, ⟨bl⟩⟩
        ·replace c12 := Bool.eq_false_iff.mpr c12; subst c12
         rw [if_neg (show ¬ (false = true) by decide)] at H
         obtain ⟨ji16, hji16⟩ : ∃ j_ : Int, (mx x4_2 (rd l0_1 x19_2)) = j_ := ⟨_, rfl⟩
         replace H : (plank_isShape.l0 k2 false ji16 l0_1 (l0_1.length : Int) (wrap64 (x19_2 + 1)) a0_0 l0_1 a0_2) = some r := by first | (rw [hji16] at H; exact H) | (simp only [hji16] at H ⊢; exact H)
         have hji16_ : (if x4_2 < (rd l0_1 x19_2) then (rd l0_1 x19_2) else x4_2) = ji16 := hji16
         have H' := Aside0.mk H; clear H
         have p108 : 0 ≤ (x19_2 : Int) := od
         have q108 : x19_2 < (l0_1.length : Int) := od
         obtain ⟨ad108, e108, hx108_0⟩ := Kd.at_int HR0_1.out x19_2 p108 q108
         cases e108
         replace hx108_0 := cm HB hx108_0; replace p108 := eq_true p108; replace q108 := eq_true q108
         go_wp2
         go_roundg k2
         case measure => have := HJ1.out; have := HK2.out; omega
         case rel => exact ⟨(false), (ji16), (wrap64 (x19_2 + 1)), sm, (by first | rfl | (simp; done) | (simp only [← hji16] <;> (first | rfl | simp)) | (simp [*]; done)), sm, H', ⟨lp HJ1 HK2⟩, ⟨bk⟩, ⟨bl⟩⟩
       ·rw [if_neg c11] at H
        exact absurd H (by simp)
      ·rw [if_neg c10] at H
       exact absurd H (by simp)
     ·rw [if_neg c9] at H
      have c9b0 : decide (x19_2 < (l0_1.length : Int)) = false := decide_eq_false c9
      clear c9; obtain rfl := Option.some.inj H
      go_wp2
      go_ret
      exact ⟨by first | rfl | (simp [errW_none, errW_some] <;> rfl) | (simp [*, errW_none, errW_some] <;> rfl), bl⟩
mutual
def plank_Check.j0 : Nat → Bool → List (S48) → List (S50) → Option (Int)
 | 0, _, _, _ => none
 | k + 1, x3, x111000, x111001 => plank_Check.l0 k x3 x111000 (x111000.length : Int) 0 x111000 x111001
def plank_Check.l0 : Nat → Bool → List (S48) → Int → Int → List (S48) → List (S50) → Option (Int)
 | 0, _, _, _, _, _, _ => none
 | k + 1, x3, x19, x20, x21, x111000, x111001 => if x21 < x20 then (if 0 ≤ x21 then (if x21 < (x19.length : Int) then (if x3 = true then ((plank_isWood.f k ((rd_T48 x19 x21).f0) ((rd_T48 x19 x21).f1)).bind fun t115 => (plank_Check.l0 k t115 x19 x20 (wrap64 (x21 + 1)) x111000 x111001)) else (plank_Check.l0 k false x19 x20 (wrap64 (x21 + 1)) x111000 x111001)) else (none)) else (none)) else (plank_Check.l1 k x3 x111001 (x111001.length : Int) 0)
def plank_Check.l1 : Nat → Bool → List (S50) → Int → Int → Option (Int)
 | 0, _, _, _, _ => none
 | k + 1, x3, x32, x33, x34 => if x34 < x33 then (if 0 ≤ x34 then (if x34 < (x32.length : Int) then (if x3 = true then ((plank_isShape.f k ((rd_T50 x32 x34).f0) ((rd_T50 x32 x34).f1) ((rd_T50 x32 x34).f2)).bind fun t118 => (plank_Check.l1 k t118 x32 x33 (wrap64 (x34 + 1)))) else (plank_Check.l1 k false x32 x33 (wrap64 (x34 + 1)))) else (none)) else (none)) else (if x3 = true then (some 0) else (some 10))
end
def plank_Check.f (k : Nat) (l0_0 : List (S48)) (l0_1 : List (S50)) : Option (Int) := (plank_on.f (l0_0.length : Int) 1 3).bind fun t111 => (if t111 = true then ((plank_on.f (l0_1.length : Int) 1 5).bind fun t112 => (plank_Check.j0 k t112 l0_0 l0_1)) else (plank_Check.j0 k false l0_0 l0_1))
set_option maxHeartbeats 8000000 in
set_option maxRecDepth 100000 in
theorem plank_Check.calls (k : Nat) (A0_0 : Option Addr) (c0_0 : Nat) (l0_0 : List (S48)) (A0_1 : Option Addr) (c0_1 : Nat) (l0_1 : List (S50)) (r : Int) (w : World) (hr0_0 : Kd.C k48 w A0_0 l0_0.length l0_0) (hc0_0 : l0_0.length ≤ c0_0) (hr0_1 : Kd.C k50 w A0_1 l0_1.length l0_1) (hc0_1 : l0_1.length ≤ c0_1) (h : plank_Check.f k l0_0 l0_1 = some r) :
  Calls Tryd.prog 18 #[.agg #[.slice A0_0 l0_0.length c0_0, .slice A0_1 l0_1.length c0_1]] w fun e w' => e = .returned (.int .i64 r) ∧ Below w.heap.size w w' := by
 have hu25 := Tryd.underlying25; have hu48 := Tryd.underlying48; have hu50 := Tryd.underlying50; have HR0_0 := Aside0.mk hr0_0; have HC0_0 := Aside0.mk hc0_0; clear hr0_0 hc0_0; have HR0_1 := Aside0.mk hr0_1; have HC0_1 := Aside0.mk hc0_1; clear hr0_1 hc0_1; have HB := Aside0.mk (Below.refl w.heap.size w)
 have H : ((plank_on.f (l0_0.length : Int) 1 3).bind fun t111 => (if t111 = true then ((plank_on.f (l0_1.length : Int) 1 5).bind fun t112 => (plank_Check.j0 k t112 l0_0 l0_1)) else (plank_Check.j0 k false l0_0 l0_1))) = some r := h
 clear h; have HC2 := Aside0.mk H; clear H
 go_enter Tryd.func18, Tryd.ntmps18
 go_upto_region 1 with (first | ((with_reducible refine gate_dst (N := 1) rfl ?_); (try (refine gate_guard (by rfl) ?_; dsimp only)); refine bx 1 #[.slice A0_0 l0_0.length c0_0, .slice A0_1 l0_1.length c0_1] 25 ?_; intro gb110 hg w3 hbox hb; have BK110 := Aside0.mk hbox; have GW110 := Aside0.mk ((by rw [hg]; exact (below_size bl) : w.heap.size ≤ gb110)); have GE110 := Aside0.mk ((by rw [hg]; exact (below_size bl) : w.heap.size ≤ gb110)); replace HB := Aside0.mk (below_step bl hb); clear hb hbox hg))
 (try simp only [Act.put, List.setIfInBounds_toArray, List.set_cons_zero, List.set_cons_succ])
 go_cut [3] (fun v3 wc => ∃ (kq : Nat) (x3_1 : Bool), v3 = .bool x3_1 ∧ Aside0 (plank_Check.j0 kq x3_1 l0_0 l0_1 = some r) ∧ Aside0 (kq ≤ k) ∧ Aside0 (wc.heap[gb110]? = some (.cells #[(.slice A0_0 l0_0.length c0_0), (.slice A0_1 l0_1.length c0_1)] 25 (0, 0))) ∧ Aside0 (Below w.heap.size w wc))
 case first =>
  have H := HC2.out; clear HC2; obtain ⟨t111, A4, H⟩ := ob H
  by_cases c5 : t111 = true
  ·subst c5; rw [if_pos rfl] at H; obtain ⟨t112, A6, H⟩ := ob H; have H' := Aside0.mk H; clear H; obtain ⟨hcz7_0, hcz7_1, hfz7_0, hfz7_1⟩ := b2 (w := w3) BK110
   go_wp2_with (first | ((with_reducible refine gate_callee (f := 70) rfl ?_); refine gl (some 11) Tryd.func70 #[.int .i64 (l0_0.length : Int), .int .i64 1, .int .i64 3] ?_; (with_reducible refine (plank_on.calls (l0_0.length : Int) 1 3 true _ A4.out).mono ?_); rintro e w' ⟨rfl, ⟨nd, rfl⟩⟩; refine ⟨_, rfl, ?_⟩) | (go_at_call 70; (with_reducible refine (plank_on.calls (l0_1.length : Int) 1 5 t112 _ A6.out).mono ?_); rintro e w' ⟨rfl, ⟨nd, rfl⟩⟩))
   go_meet
   case rel => exact ⟨_, (t112), sm, H', ⟨by first | omega | exact Nat.le_refl _⟩, ⟨bk⟩, ⟨bl⟩⟩
  ·replace c5 := Bool.eq_false_iff.mpr c5; subst c5
   rw [if_neg (show ¬ (false = true) by decide)] at H
   have H' := Aside0.mk H; clear H; obtain ⟨hcz8_0, hcz8_1, hfz8_0, hfz8_1⟩ := b2 (w := w3) BK110
   go_wp2_with (first | ((with_reducible refine gate_callee (f := 70) rfl ?_); refine gl (some 11) Tryd.func70 #[.int .i64 (l0_0.length : Int), .int .i64 1, .int .i64 3] ?_; (with_reducible refine (plank_on.calls (l0_0.length : Int) 1 3 false _ A4.out).mono ?_); rintro e w' ⟨rfl, ⟨nd, rfl⟩⟩; refine ⟨_, rfl, ?_⟩))
   go_meet
   case rel => exact ⟨_, (false), sm, H', ⟨by first | omega | exact Nat.le_refl _⟩, ⟨bk⟩, ⟨bl⟩⟩
 case rest =>
  clear HC2; (try clear c1); (try clear p2); (try clear c5); (try clear c7); (try clear hcz7_0); (try clear hcz7_1); (try clear hcz8_0); (try clear hcz8_1); (try clear hfz7_0); (try clear hfz7_1); (try clear hfz8_0); (try clear hfz8_1); obtain ⟨kq, x3_1, rfl, HA, HJ1, BK110, HB⟩ := hcut
  cases kq with
  | zero => exact absurd HA.out (by simp [plank_Check.j0])
  | succ kj1 =>
   have H := HA.out; clear HA
   simp only [plank_Check.j0] at H
   have H' := Aside0.mk H; clear H; obtain ⟨hcz9_0, hcz9_1, hfz9_0, hfz9_1⟩ := b2 (w := wc) BK110
   go_wp2
   go_loopg [3, 21] kj1 (fun kq v3 v21 w' => ∃ (x3_2 : Bool) (x21_2 : Int), v3 = .bool x3_2 ∧ v21 = .int .i64 x21_2 ∧ Aside0 (plank_Check.l0 kq x3_2 l0_0 (l0_0.length : Int) x21_2 l0_0 l0_1 = some r) ∧ Aside0 (kq ≤ kj1) ∧ Aside0 (w'.heap[gb110]? = some (.cells #[(.slice A0_0 l0_0.length c0_0), (.slice A0_1 l0_1.length c0_1)] 25 (0, 0))) ∧ Aside0 (Below w.heap.size w w'))
   case atStart => exact ⟨(x3_1), (0), sm, sm, H', ⟨Nat.le_refl _⟩, ⟨bk⟩, ⟨bl⟩⟩
   case round =>
    clear H'; (try clear c1); (try clear p2); (try clear c5); (try clear c7); (try clear hcz7_0); (try clear hcz7_1); (try clear hcz8_0); (try clear hcz8_1); (try clear hcz9_0); (try clear hcz9_1); (try clear hfz7_0); (try clear hfz7_1); (try clear hfz8_0); (try clear hfz8_1); (try clear hfz9_0); (try clear hfz9_1); obtain ⟨x3_2, x21_2, rfl, rfl, HA, HK2, BK110, HB⟩ := hrel
    cases gk with
    | zero => exact absurd HA.out (by simp [plank_Check.l0])
    | succ k2 =>
     have H := HA.out; clear HA
     simp only [plank_Check.l0] at H
     by_cases c10 : x21_2 < (l0_0.length : Int)
     ·rw [if_pos c10] at H; have c10b0 := decide_eq_true c10; clear c10
      by_cases c11 : 0 ≤ x21_2
      ·rw [if_pos c11] at H; have c11b0 := decide_eq_true c11; clear c11
       by_cases c12 : x21_2 < (l0_0.length : Int)
       ·rw [if_pos c12] at H; have c12b0 := decide_eq_true c12; clear c12
        by_cases c13 : x3_2 = true
        ·subst c13; rw [if_pos rfl] at H; obtain ⟨t115, A14, H⟩ := ob H; have H' := Aside0.mk H; clear H
         have p113 : 0 ≤ (x21_2 : Int) := od
         have q113 : x21_2 < (l0_0.length : Int) := od
         obtain ⟨ad113, A113_1, c113_1, e113, hx113_0, hx113_1, hl113_1, hi113_1⟩ := at_T48 HR0_0.out x21_2 p113 q113
         cases e113
         replace hx113_0 := cm HB hx113_0; replace hx113_1 := cm HB hx113_1; have HR113_1 := Aside0.mk hi113_1; have HC113_1 := Aside0.mk hl113_1; clear hi113_1 hl113_1; replace p113 := eq_true p113; replace q113 := eq_true q113
         go_wp2_with (first | ((with_reducible refine gate_dst (N := 5) rfl ?_); (try (refine gate_guard (by rfl) ?_; dsimp only)); refine bx 5 #[.int .i64 0, .slice none 0 0] 48 ?_; intro gb114 hg w15 hbox hb; have BK114 := Aside0.mk hbox; have GW114 := Aside0.mk ((by rw [hg]; exact (below_size bl) : w.heap.size ≤ gb114)); have GE114 := Aside0.mk ((by rw [hg]; exact (below_size bl) : w.heap.size ≤ gb114)); replace HB := Aside0.mk (below_step bl hb); have NB110_114 := nl hg BK110; have NB114_110 := ng hg BK110; replace BK110 := nb BK110 hb; clear hb hbox hg; have hnb16 := NB114_110.out; have hnc16 := NB110_114.out; obtain ⟨hcz17_0, hcz17_1, hfz17_0, hfz17_1⟩ := b2 (w := w15) BK114) | (go_at_call 71; (with_reducible refine (plank_isWood.calls k2 ((rd_T48 l0_0 x21_2).f0) _ _ ((rd_T48 l0_0 x21_2).f1) t115 _ ?side1 ?side2 A14.out).mono ?_); (case side1 => exact Kd.C_below HR113_1.out bl); (case side2 => exact HC113_1.out); rintro e w18 ⟨rfl, hb⟩; replace BK110 := Aside0.mk (blk_below (g := gb110) (o := .cells #[.slice (some ad113) l0_0.length c0_0, .slice A0_1 l0_1.length c0_1] 25 (0, 0)) (by (with_reducible repeat (first | refine blk_drewN ?_ _ | refine blk_drew ?_ | refine blk_alloc ?_ _)); refine blk_far ?_ NB110_114.out _; (with_reducible repeat (first | refine blk_drewN ?_ _ | refine blk_drew ?_ | refine blk_alloc ?_ _)); refine blk_far ?_ NB110_114.out _; (with_reducible repeat (first | refine blk_drewN ?_ _ | refine blk_drew ?_ | refine blk_alloc ?_ _)); exact BK110.out) hb); replace BK114 := Aside0.mk (blk_below (g := gb114) (o := .cells #[.int .i64 ((rd_T48 l0_0 x21_2).f0), .slice A113_1 ((rd_T48 l0_0 x21_2).f1).length c113_1] 48 (0, 0)) (by (with_reducible repeat (first | refine blk_drewN ?_ _ | refine blk_drew ?_ | refine blk_alloc ?_ _)); refine blk_put (cs := #[.int .i64 ((rd_T48 l0_0 x21_2).f0), .slice none 0 0]) ?_ 1 _ rfl; (with_reducible repeat (first | refine blk_drewN ?_ _ | refine blk_drew ?_ | refine blk_alloc ?_ _)); refine blk_put (cs := #[.int .i64 0, .slice none 0 0]) ?_ 0 _ rfl; (with_reducible repeat (first | refine blk_drewN ?_ _ | refine blk_drew ?_ | refine blk_alloc ?_ _)); exact BK114.out) hb); replace HB := Aside0.mk (below_step bl hb); (try clear hb); (try clear hb2); (try clear hk); (try clear hi)))
         go_roundg k2
         case measure => have := HJ1.out; have := HK2.out; omega
         case rel => exact ⟨(t115), (wrap64 (x21_2 + 1)), sm, sm, H', ⟨lp HJ1 HK2⟩, ⟨bk⟩, ⟨bl⟩⟩
        ·replace c13 := Bool.eq_false_iff.mpr c13; subst c13
         rw [if_neg (show ¬ (false = true) by decide)] at H
         have H' := Aside0.mk H; clear H
         have p113 : 0 ≤ (x21_2 : Int) := od
         have q113 : x21_2 < (l0_0.length : Int) := od
         obtain ⟨ad113, A113_1, c113_1, e113, hx113_0, hx113_1, hl113_1, hi113_1⟩ := at_T48 HR0_0.out x21_2 p113 q113
         cases e113
         replace hx113_0 := cm HB hx113_0; replace hx113_1 := cm HB hx113_1; have HR113_1 := Aside0.mk hi113_1; have HC113_1 := Aside0.mk hl113_1; clear hi113_1 hl113_1; replace p113 := eq_true p113; replace q113 := eq_true q113
         go_wp2_with (first | ((with_reducible refine gate_dst (N := 5) rfl ?_); (try (refine gate_guard (by rfl) ?_; dsimp only)); refine bx 5 #[.int .i64 0, .slice none 0 0] 48 ?_; intro gb114 hg w19 hbox hb; have BK114 := Aside0.mk hbox; have GW114 := Aside0.mk ((by rw [hg]; exact (below_size bl) : w.heap.size ≤ gb114)); have GE114 := Aside0.mk ((by rw [hg]; exact (below_size bl) : w.heap.size ≤ gb114)); replace HB := Aside0.mk (below_step bl hb); have NB110_114 := nl hg BK110; have NB114_110 := ng hg BK110; replace BK110 := nb BK110 hb; clear hb hbox hg; have hnb20 := NB114_110.out; have hnc20 := NB110_114.out; obtain ⟨hcz21_0, hcz21_1, hfz21_0, hfz21_1⟩ := b2 (w := w19) BK114))
         go_roundg k2
         case measure => have := HJ1.out; have := HK2.out; omega
         case rel => exact ⟨(false), (wrap64 (x21_2 + 1)), sm, sm, H', ⟨lp HJ1 HK2⟩, ⟨by (with_reducible repeat (first | refine blk_drewN ?_ _ | refine blk_drew ?_ | refine blk_alloc ?_ _)); refine blk_far ?_ NB110_114.out _; (with_reducible repeat (first | refine blk_drewN ?_ _ | refine blk_drew ?_ | refine blk_alloc ?_ _)); refine blk_far ?_ NB110_114.out _; (with_reducible repeat (first | refine blk_drewN ?_ _ | refine blk_drew ?_ | refine blk_alloc ?_ _)); exact BK110.out⟩, ⟨bl⟩⟩
       ·rw [if_neg c12] at H
        exact absurd H (by simp)
      ·rw [if_neg c11] at H
       exact absurd H (by simp)
     ·rw [if_neg c10] at H
      have c10b0 : decide (x21_2 < (l0_0.length : Int)) = false := decide_eq_false c10
      clear c10; have H' := Aside0.mk H; clear H; obtain ⟨hcz22_0, hcz22_1, hfz22_0, hfz22_1⟩ := b2 (w := wr) BK110
      go_wp2
      go_loopg [3, 34] k2 (fun kq v3 v34 w' => ∃ (x3_3 : Bool) (x34_3 : Int), v3 = .bool x3_3 ∧ v34 = .int .i64 x34_3 ∧ Aside0 (plank_Check.l1 kq x3_3 l0_1 (l0_1.length : Int) x34_3 = some r) ∧ Aside0 (kq ≤ k2) ∧ Aside0 (w'.heap[gb110]? = some (.cells #[(.slice A0_0 l0_0.length c0_0), (.slice A0_1 l0_1.length c0_1)] 25 (0, 0))) ∧ Aside0 (Below w.heap.size w w'))
      case atStart => exact ⟨(x3_2), (0), sm, sm, H', ⟨Nat.le_refl _⟩, ⟨bk⟩, ⟨bl⟩⟩
      case round =>
       clear H'; (try clear c1); (try clear p1); (try clear q1); (try clear hx1); (try clear c2); (try clear p2); (try clear c5); (try clear p6); (try clear c7); (try clear c10); (try clear c10b0); (try clear c11); (try clear c11b0); (try clear p11); (try clear q11); (try clear hx11); (try clear c12); (try clear c12b0); (try clear c13); (try clear c16); (try clear c18); (try clear c20); (try clear hcz17_0); (try clear hcz17_1); (try clear hcz21_0); (try clear hcz21_1); (try clear hcz22_0); (try clear hcz22_1); (try clear hcz7_0); (try clear hcz7_1); (try clear hcz8_0); (try clear hcz8_1); (try clear hcz9_0); (try clear hcz9_1); (try clear hfz17_0); (try clear hfz17_1); (try clear hfz21_0); (try clear hfz21_1); (try clear hfz22_0); (try clear hfz22_1); (try clear hfz7_0); (try clear hfz7_1); (try clear hfz8_0); (try clear hfz8_1); (try clear hfz9_0); (try clear hfz9_1); (try clear hx113_0); (try clear hx113_1); (try clear p113); (try clear q113)
       obtain ⟨x3_3, x34_3, rfl, rfl, HA, HK3, BK110, HB⟩ := hrel
       cases gk with
       | zero => exact absurd HA.out (by simp [plank_Check.l1])
       | succ k3 =>
        have H := HA.out; clear HA
        simp only [plank_Check.l1] at H
        by_cases c23 : x34_3 < (l0_1.length : Int)
        ·rw [if_pos c23] at H; have c23b0 := decide_eq_true c23; clear c23
         by_cases c24 : 0 ≤ x34_3
         ·rw [if_pos c24] at H; have c24b0 := decide_eq_true c24; clear c24
          by_cases c25 : x34_3 < (l0_1.length : Int)
          ·rw [if_pos c25] at H; have c25b0 := decide_eq_true c25; clear c25
           by_cases c26 : x3_3 = true
           ·subst c26; rw [if_pos rfl] at H; obtain ⟨t118, A27, H⟩ := ob H; have H' := Aside0.mk H; clear H
            have p116 : 0 ≤ (x34_3 : Int) := od
            have q116 : x34_3 < (l0_1.length : Int) := od
            obtain ⟨ad116, A116_1, c116_1, e116, hx116_0, hx116_1, hx116_2, hl116_1, hi116_1⟩ := at_T50 HR0_1.out x34_3 p116 q116
            cases e116
            replace hx116_0 := cm HB hx116_0; replace hx116_1 := cm HB hx116_1; replace hx116_2 := cm HB hx116_2; have HR116_1 := Aside0.mk hi116_1; have HC116_1 := Aside0.mk hl116_1; clear hi116_1 hl116_1; replace p116 := eq_true p116; replace q116 := eq_true q116
            go_wp2_with (first | ((with_reducible refine gate_dst (N := 7) rfl ?_); (try (refine gate_guard (by rfl) ?_; dsimp only)); refine bx 7 #[.int .i64 0, .slice none 0 0, .bool false] 50 ?_; intro gb117 hg w28 hbox hb; have BK117 := Aside0.mk hbox; have GW117 := Aside0.mk ((by rw [hg]; exact (below_size bl) : w.heap.size ≤ gb117)); have GE117 := Aside0.mk ((by rw [hg]; exact (below_size bl) : w.heap.size ≤ gb117)); replace HB := Aside0.mk (below_step bl hb); have NB110_117 := nl hg BK110; have NB117_110 := ng hg BK110; replace BK110 := nb BK110 hb; clear hb hbox hg; have hnb29 := NB117_110.out; have hnc29 := NB110_117.out; obtain ⟨hcz30_0, hcz30_1, hcz30_2, hfz30_0, hfz30_1, hfz30_2⟩ := b3 (w := w28) BK117) | (go_at_call 72; (with_reducible refine (plank_isShape.calls k3 ((rd_T50 l0_1 x34_3).f0) _ _ ((rd_T50 l0_1 x34_3).f1) ((rd_T50 l0_1 x34_3).f2) t118 _ ?side1 ?side2 A27.out).mono ?_); (case side1 => exact Kd.C_below HR116_1.out bl); (case side2 => exact HC116_1.out); rintro e w31 ⟨rfl, hb⟩; replace BK110 := Aside0.mk (blk_below (g := gb110) (o := .cells #[.slice A0_0 l0_0.length c0_0, .slice (some ad116) l0_1.length c0_1] 25 (0, 0)) (by (with_reducible repeat (first | refine blk_drewN ?_ _ | refine blk_drew ?_ | refine blk_alloc ?_ _)); refine blk_far ?_ NB110_117.out _; (with_reducible repeat (first | refine blk_drewN ?_ _ | refine blk_drew ?_ | refine blk_alloc ?_ _)); refine blk_far ?_ NB110_117.out _; (with_reducible repeat (first | refine blk_drewN ?_ _ | refine blk_drew ?_ | refine blk_alloc ?_ _)); refine blk_far ?_ NB110_117.out _; (with_reducible repeat (first | refine blk_drewN ?_ _ | refine blk_drew ?_ | refine blk_alloc ?_ _)); exact BK110.out) hb); replace BK117 := Aside0.mk (blk_below (g := gb117) (o := .cells #[.int .i64 ((rd_T50 l0_1 x34_3).f0), .slice A116_1 ((rd_T50 l0_1 x34_3).f1).length c116_1, .bool ((rd_T50 l0_1 x34_3).f2)] 50 (0, 0)) (by (with_reducible repeat (first | refine blk_drewN ?_ _ | refine blk_drew ?_ | refine blk_alloc ?_ _)); refine blk_put (cs := #[.int .i64 ((rd_T50 l0_1 x34_3).f0), .slice A116_1 ((rd_T50 l0_1 x34_3).f1).length c116_1, .bool false]) ?_ 2 _ rfl; (with_reducible repeat (first | refine blk_drewN ?_ _ | refine blk_drew ?_ | refine blk_alloc ?_ _)); refine blk_put (cs := #[.int .i64 ((rd_T50 l0_1 x34_3).f0), .slice none 0 0, .bool false]) ?_ 1 _ rfl; (with_reducible repeat (first | refine blk_drewN ?_ _ | refine blk_drew ?_ | refine blk_alloc ?_ _)); refine blk_put (cs := #[.int .i64 0, .slice none 0 0, .bool false]) ?_ 0 _ rfl; (with_reducible repeat (first | refine blk_drewN ?_ _ | refine blk_drew ?_ | refine blk_alloc ?_ _)); exact BK117.out) hb); replace HB := Aside0.mk (below_step bl hb); (try clear hb); (try clear hb2); (try clear hk); (try clear hi)))
            go_roundg k3
            case measure => have := HJ1.out; have := HK2.out; have := HK3.out; omega
            case rel => exact ⟨(t118), (wrap64 (x34_3 + 1)), sm, sm, H', ⟨by have := HJ1.out; have := HK2.out; have := HK3.out; omega⟩, ⟨bk⟩, ⟨bl⟩⟩
           ·replace c26 := Bool.eq_false_iff.mpr c26; subst c26
            rw [if_neg (show ¬ (false = true) by decide)] at H
            have H' := Aside0.mk H; clear H
            have p116 : 0 ≤ (x34_3 : Int) := od
            have q116 : x34_3 < (l0_1.length : Int) := od
            obtain ⟨ad116, A116_1, c116_1, e116, hx116_0, hx116_1, hx116_2, hl116_1, hi116_1⟩ := at_T50 HR0_1.out x34_3 p116 q116
            cases e116
            replace hx116_0 := cm HB hx116_0; replace hx116_1 := cm HB hx116_1; replace hx116_2 := cm HB hx116_2; have HR116_1 := Aside0.mk hi116_1; have HC116_1 := Aside0.mk hl116_1; clear hi116_1 hl116_1; replace p116 := eq_true p116; replace q116 := eq_true q116
            go_wp2_with (first | ((with_reducible refine gate_dst (N := 7) rfl ?_); (try (refine gate_guard (by rfl) ?_; dsimp only)); refine bx 7 #[.int .i64 0, .slice none 0 0, .bool false] 50 ?_; intro gb117 hg w32 hbox hb; have BK117 := Aside0.mk hbox; have GW117 := Aside0.mk ((by rw [hg]; exact (below_size bl) : w.heap.size ≤ gb117)); have GE117 := Aside0.mk ((by rw [hg]; exact (below_size bl) : w.heap.size ≤ gb117)); replace HB := Aside0.mk (below_step bl hb); have NB110_117 := nl hg BK110; have NB117_110 := ng hg BK110; replace BK110 := nb BK110 hb; clear hb hbox hg; have hnb33 := NB117_110.out; have hnc33 := NB110_117.out; obtain ⟨hcz34_0, hcz34_1, hcz34_2, hfz34_0, hfz34_1, hfz34_2⟩ := b3 (w := w32) BK117))
            go_roundg k3
            case measure => have := HJ1.out; have := HK2.out; have := HK3.out; omega
            case rel => exact ⟨(false), (wrap64 (x34_3 + 1)), sm, sm, H', ⟨by have := HJ1.out; have := HK2.out; have := HK3.out; omega⟩, ⟨by (with_reducible repeat (first | refine blk_drewN ?_ _ | refine blk_drew ?_ | refine blk_alloc ?_ _)); refine blk_far ?_ NB110_117.out _; (with_reducible repeat (first | refine blk_drewN ?_ _ | refine blk_drew ?_ | refine blk_alloc ?_ _)); refine blk_far ?_ NB110_117.out _; (with_reducible repeat (first | refine blk_drewN ?_ _ | refine blk_drew ?_ | refine blk_alloc ?_ _)); refine blk_far ?_ NB110_117.out _; (with_reducible repeat (first | refine blk_drewN ?_ _ | refine blk_drew ?_ | refine blk_alloc ?_ _)); exact BK110.out⟩, ⟨bl⟩⟩
          ·rw [if_neg c25] at H
           exact absurd H (by simp)
         ·rw [if_neg c24] at H
          exact absurd H (by simp)
        ·rw [if_neg c23] at H
         have c23b0 : decide (x34_3 < (l0_1.length : Int)) = false := decide_eq_false c23
         clear c23
         by_cases c35 : x3_3 = true
         ·subst c35; rw [if_pos rfl] at H; obtain rfl := Option.some.inj H
          go_wp2
          go_ret
          exact ⟨by first | rfl | (simp [errW_none, errW_some] <;> rfl) | (simp [*, errW_none, errW_some] <;> rfl), bl⟩
         ·replace c35 := Bool.eq_false_iff.mpr c35; subst c35
          rw [if_neg (show ¬ (false = true) by decide)] at H
          obtain rfl := Option.some.inj H
          go_wp2
          go_ret
          exact ⟨by first | rfl | (simp [errW_none, errW_some] <;> rfl) | (simp [*, errW_none, errW_some] <;> rfl), bl⟩
def plank_isPlank.f (l0_0 : List (S48)) (l0_1 : List (S50)) (a1 : Int) : Option (Bool) := (plank_on.f a1 0 (wrap64 ((l0_0.length : Int) - 1))).bind fun t120 => (some t120)
set_option maxHeartbeats 8000000 in
set_option maxRecDepth 100000 in
theorem plank_isPlank.calls (A0_0 : Option Addr) (c0_0 : Nat) (l0_0 : List (S48)) (A0_1 : Option Addr) (c0_1 : Nat) (l0_1 : List (S50)) (a1 : Int) (r : Bool) (w : World) (hr0_0 : Kd.C k48 w A0_0 l0_0.length l0_0) (hc0_0 : l0_0.length ≤ c0_0) (hr0_1 : Kd.C k50 w A0_1 l0_1.length l0_1) (hc0_1 : l0_1.length ≤ c0_1) (h : plank_isPlank.f l0_0 l0_1 a1 = some r) :
  Calls Tryd.prog 61 #[.agg #[.slice A0_0 l0_0.length c0_0, .slice A0_1 l0_1.length c0_1], .int .i64 a1] w fun e w' => e = .returned (.bool r) ∧ Below w.heap.size w w' := by
 have hu25 := Tryd.underlying25; have HR0_0 := Aside0.mk hr0_0; have HC0_0 := Aside0.mk hc0_0; clear hr0_0 hc0_0; have HR0_1 := Aside0.mk hr0_1; have HC0_1 := Aside0.mk hc0_1; clear hr0_1 hc0_1; have HB := Aside0.mk (Below.refl w.heap.size w)
 have H : ((plank_on.f a1 0 (wrap64 ((l0_0.length : Int) - 1))).bind fun t120 => (some t120)) = some r := h
 clear h; obtain ⟨t120, A3, H⟩ := ob H; obtain rfl := Option.some.inj H
 go_enter Tryd.func61, Tryd.ntmps61
 go_wp2_with (first | (refine bx 2 #[.slice A0_0 l0_0.length c0_0, .slice A0_1 l0_1.length c0_1] 25 ?_; intro gb119 hg w4 hbox hb; have BK119 := Aside0.mk hbox; have GW119 := Aside0.mk ((by rw [hg]; exact (below_size bl) : w.heap.size ≤ gb119)); have GE119 := Aside0.mk ((by rw [hg]; exact (below_size bl) : w.heap.size ≤ gb119)); replace HB := Aside0.mk (below_step bl hb); clear hb hbox hg; obtain ⟨hcz5_0, hcz5_1, hfz5_0, hfz5_1⟩ := b2 (w := w4) BK119) | ((with_reducible refine gate_callee (f := 70) rfl ?_); refine gl (some 10) Tryd.func70 #[.int .i64 a1, .int .i64 0, .int .i64 (wrap64 ((l0_0.length : Int) - 1))] ?_; (with_reducible refine (plank_on.calls a1 0 (wrap64 ((l0_0.length : Int) - 1)) t120 _ A3.out).mono ?_); rintro e w' ⟨rfl, ⟨nd, rfl⟩⟩; refine ⟨_, rfl, ?_⟩))
 go_ret
 exact ⟨by first | rfl | (simp [errW_none, errW_some] <;> rfl) | (simp [*, errW_none, errW_some] <;> rfl), bl⟩
def plank_isPart.f (l0_0 : List (S48)) (l0_1 : List (S50)) (a1 : Int) : Option (Bool) := (plank_on.f a1 0 (wrap64 ((l0_1.length : Int) - 1))).bind fun t122 => (some t122)
set_option maxHeartbeats 8000000 in
set_option maxRecDepth 100000 in
theorem plank_isPart.calls (A0_0 : Option Addr) (c0_0 : Nat) (l0_0 : List (S48)) (A0_1 : Option Addr) (c0_1 : Nat) (l0_1 : List (S50)) (a1 : Int) (r : Bool) (w : World) (hr0_0 : Kd.C k48 w A0_0 l0_0.length l0_0) (hc0_0 : l0_0.length ≤ c0_0) (hr0_1 : Kd.C k50 w A0_1 l0_1.length l0_1) (hc0_1 : l0_1.length ≤ c0_1) (h : plank_isPart.f l0_0 l0_1 a1 = some r) :
  Calls Tryd.prog 62 #[.agg #[.slice A0_0 l0_0.length c0_0, .slice A0_1 l0_1.length c0_1], .int .i64 a1] w fun e w' => e = .returned (.bool r) ∧ Below w.heap.size w w' := by
 have hu25 := Tryd.underlying25; have HR0_0 := Aside0.mk hr0_0; have HC0_0 := Aside0.mk hc0_0; clear hr0_0 hc0_0; have HR0_1 := Aside0.mk hr0_1; have HC0_1 := Aside0.mk hc0_1; clear hr0_1 hc0_1; have HB := Aside0.mk (Below.refl w.heap.size w)
 have H : ((plank_on.f a1 0 (wrap64 ((l0_1.length : Int) - 1))).bind fun t122 => (some t122)) = some r := h
 clear h; obtain ⟨t122, A3, H⟩ := ob H; obtain rfl := Option.some.inj H
 go_enter Tryd.func62, Tryd.ntmps62
 go_wp2_with (first | (refine bx 2 #[.slice A0_0 l0_0.length c0_0, .slice A0_1 l0_1.length c0_1] 25 ?_; intro gb121 hg w4 hbox hb; have BK121 := Aside0.mk hbox; have GW121 := Aside0.mk ((by rw [hg]; exact (below_size bl) : w.heap.size ≤ gb121)); have GE121 := Aside0.mk ((by rw [hg]; exact (below_size bl) : w.heap.size ≤ gb121)); replace HB := Aside0.mk (below_step bl hb); clear hb hbox hg; obtain ⟨hcz5_0, hcz5_1, hfz5_0, hfz5_1⟩ := b2 (w := w4) BK121) | ((with_reducible refine gate_callee (f := 70) rfl ?_); refine gl (some 10) Tryd.func70 #[.int .i64 a1, .int .i64 0, .int .i64 (wrap64 ((l0_1.length : Int) - 1))] ?_; (with_reducible refine (plank_on.calls a1 0 (wrap64 ((l0_1.length : Int) - 1)) t122 _ A3.out).mono ?_); rintro e w' ⟨rfl, ⟨nd, rfl⟩⟩; refine ⟨_, rfl, ?_⟩))
 go_ret
 exact ⟨by first | rfl | (simp [errW_none, errW_some] <;> rfl) | (simp [*, errW_none, errW_some] <;> rfl), bl⟩
def cmp_isNaN_int.f (a0 : Int) : Option (Bool) := some (a0 != a0)
set_option maxHeartbeats 8000000 in
set_option maxRecDepth 100000 in
theorem cmp_isNaN_int.calls (a0 : Int) (r : Bool) (w : World) (h : cmp_isNaN_int.f a0 = some r) :
  Calls Tryd.prog 115 #[.int .i64 a0] w fun e w' => e = .returned (.bool r) ∧ Drawn0 w w' := by
 have H : (some (a0 != a0)) = some r := h
 clear h; obtain rfl := Option.some.inj H
 go_enter Tryd.func115, Tryd.ntmps115
 go_wp2
 go_ret
 exact ⟨sm, by repeat (first | exact Drawn0.refl _ | apply Drawn0.step)⟩
def cmp_Compare_int.f (a0 : Int) (a1 : Int) : Option (Int) := (cmp_isNaN_int.f a0).bind fun t123 => ((cmp_isNaN_int.f a1).bind fun t124 => (if t123 = true then (if t124 = true then (some 0) else (some (-1))) else (if t124 = true then (some 1) else (if a0 < a1 then (some (-1)) else (if a0 > a1 then (some 1) else (some 0))))))
set_option maxHeartbeats 8000000 in
set_option maxRecDepth 100000 in
theorem cmp_Compare_int.calls (a0 : Int) (a1 : Int) (r : Int) (w : World) (h : cmp_Compare_int.f a0 a1 = some r) :
  Calls Tryd.prog 114 #[.int .i64 a0, .int .i64 a1] w fun e w' => e = .returned (.int .i64 r) ∧ Drawn0 w w' := by
 have H : ((cmp_isNaN_int.f a0).bind fun t123 => ((cmp_isNaN_int.f a1).bind fun t124 => (if t123 = true then (if t124 = true then (some 0) else (some (-1))) else (if t124 = true then (some 1) else (if a0 < a1 then (some (-1)) else (if a0 > a1 then (some 1) else (some 0))))))) = some r := h
 clear h; obtain ⟨t123, A3, H⟩ := ob H; obtain ⟨t124, A4, H⟩ := ob H
 by_cases c5 : t123 = true
 ·subst c5; rw [if_pos rfl] at H
  by_cases c6 : t124 = true
  ·subst c6; rw [if_pos rfl] at H; obtain rfl := Option.some.inj H
   go_enter Tryd.func114, Tryd.ntmps114
   go_wp2_with (first | ((with_reducible refine gate_callee (f := 115) rfl ?_); refine gl (some 8) Tryd.func115 #[.int .i64 a0] ?_; (with_reducible refine (cmp_isNaN_int.calls a0 true _ A3.out).mono ?_); rintro e w' ⟨rfl, ⟨nd, rfl⟩⟩; refine ⟨_, rfl, ?_⟩) | ((with_reducible refine gate_callee (f := 115) rfl ?_); refine gl (some 10) Tryd.func115 #[.int .i64 a1] ?_; (with_reducible refine (cmp_isNaN_int.calls a1 true _ A4.out).mono ?_); rintro e w' ⟨rfl, ⟨nd, rfl⟩⟩; refine ⟨_, rfl, ?_⟩))
   go_ret
   exact ⟨sm, by repeat (first | exact Drawn0.refl _ | apply Drawn0.step)⟩
  ·replace c6 := Bool.eq_false_iff.mpr c6; subst c6
   rw [if_neg (show ¬ (false = true) by decide)] at H
   obtain rfl := Option.some.inj H
   go_enter Tryd.func114, Tryd.ntmps114
   go_wp2_with (first | ((with_reducible refine gate_callee (f := 115) rfl ?_); refine gl (some 8) Tryd.func115 #[.int .i64 a0] ?_; (with_reducible refine (cmp_isNaN_int.calls a0 true _ A3.out).mono ?_); rintro e w' ⟨rfl, ⟨nd, rfl⟩⟩; refine ⟨_, rfl, ?_⟩) | ((with_reducible refine gate_callee (f := 115) rfl ?_); refine gl (some 10) Tryd.func115 #[.int .i64 a1] ?_; (with_reducible refine (cmp_isNaN_int.calls a1 false _ A4.out).mono ?_); rintro e w' ⟨rfl, ⟨nd, rfl⟩⟩; refine ⟨_, rfl, ?_⟩))
   go_ret
   exact ⟨sm, by repeat (first | exact Drawn0.refl _ | apply Drawn0.step)⟩
 ·replace c5 := Bool.eq_false_iff.mpr c5; subst c5
  rw [if_neg (show ¬ (false = true) by decide)] at H
  by_cases c7 : t124 = true
  ·subst c7; rw [if_pos rfl] at H; obtain rfl := Option.some.inj H
   go_enter Tryd.func114, Tryd.ntmps114
   go_wp2_with (first | ((with_reducible refine gate_callee (f := 115) rfl ?_); refine gl (some 8) Tryd.func115 #[.int .i64 a0] ?_; (with_reducible refine (cmp_isNaN_int.calls a0 false _ A3.out).mono ?_); rintro e w' ⟨rfl, ⟨nd, rfl⟩⟩; refine ⟨_, rfl, ?_⟩) | ((with_reducible refine gate_callee (f := 115) rfl ?_); refine gl (some 10) Tryd.func115 #[.int .i64 a1] ?_; (with_reducible refine (cmp_isNaN_int.calls a1 true _ A4.out).mono ?_); rintro e w' ⟨rfl, ⟨nd, rfl⟩⟩; refine ⟨_, rfl, ?_⟩))
   go_ret
   exact ⟨sm, by repeat (first | exact Drawn0.refl _ | apply Drawn0.step)⟩
  ·replace c7 := Bool.eq_false_iff.mpr c7; subst c7
   rw [if_neg (show ¬ (false = true) by decide)] at H
   by_cases c8 : a0 < a1
   ·rw [if_pos c8] at H; have c8b0 := decide_eq_true c8; clear c8; obtain rfl := Option.some.inj H
    go_enter Tryd.func114, Tryd.ntmps114
    go_wp2_with (first | ((with_reducible refine gate_callee (f := 115) rfl ?_); refine gl (some 8) Tryd.func115 #[.int .i64 a0] ?_; (with_reducible refine (cmp_isNaN_int.calls a0 false _ A3.out).mono ?_); rintro e w' ⟨rfl, ⟨nd, rfl⟩⟩; refine ⟨_, rfl, ?_⟩) | ((with_reducible refine gate_callee (f := 115) rfl ?_); refine gl (some 10) Tryd.func115 #[.int .i64 a1] ?_; (with_reducible refine (cmp_isNaN_int.calls a1 false _ A4.out).mono ?_); rintro e w' ⟨rfl, ⟨nd, rfl⟩⟩; refine ⟨_, rfl, ?_⟩))
    go_ret
    exact ⟨sm, by repeat (first | exact Drawn0.refl _ | apply Drawn0.step)⟩
   ·rw [if_neg c8] at H
    have c8b0 : decide (a0 < a1) = false := decide_eq_false c8
    clear c8
    by_cases c9 : a0 > a1
    ·rw [if_pos c9] at H; have c9b0 := decide_eq_true c9; clear c9; obtain rfl := Option.some.inj H
     go_enter Tryd.func114, Tryd.ntmps114
     go_wp2_with (first | ((with_reducible refine gate_callee (f := 115) rfl ?_); refine gl (some 8) Tryd.func115 #[.int .i64 a0] ?_; (with_reducible refine (cmp_isNaN_int.calls a0 false _ A3.out).mono ?_); rintro e w' ⟨rfl, ⟨nd, rfl⟩⟩; refine ⟨_, rfl, ?_⟩) | ((with_reducible refine gate_callee (f := 115) rfl ?_); refine gl (some 10) Tryd.func115 #[.int .i64 a1] ?_; (with_reducible refine (cmp_isNaN_int.calls a1 false _ A4.out).mono ?_); rintro e w' ⟨rfl, ⟨nd, rfl⟩⟩; refine ⟨_, rfl, ?_⟩))
     go_ret
     exact ⟨sm, by repeat (first | exact Drawn0.refl _ | apply Drawn0.step)⟩
    ·rw [if_neg c9] at H
     have c9b0 : decide (a1 < a0) = false := decide_eq_false c9
     clear c9; obtain rfl := Option.some.inj H
     go_enter Tryd.func114, Tryd.ntmps114
     go_wp2_with (first | ((with_reducible refine gate_callee (f := 115) rfl ?_); refine gl (some 8) Tryd.func115 #[.int .i64 a0] ?_; (with_reducible refine (cmp_isNaN_int.calls a0 false _ A3.out).mono ?_); rintro e w' ⟨rfl, ⟨nd, rfl⟩⟩; refine ⟨_, rfl, ?_⟩) | ((with_reducible refine gate_callee (f := 115) rfl ?_); refine gl (some 10) Tryd.func115 #[.int .i64 a1] ?_; (with_reducible refine (cmp_isNaN_int.calls a1 false _ A4.out).mono ?_); rintro e w' ⟨rfl, ⟨nd, rfl⟩⟩; refine ⟨_, rfl, ?_⟩))
     go_ret
     exact ⟨sm, by repeat (first | exact Drawn0.refl _ | apply Drawn0.step)⟩
def slices_Compare_int_int.l0 : Nat → List Int → List Int → List Int → Int → Int → Option (Int)
 | 0, _, _, _, _, _ => none
 | k + 1, x0, x1, x9, x10, x11 => if x11 < x10 then (if 0 ≤ x11 then (if x11 < (x9.length : Int) then (if x11 ≥ (x1.length : Int) then (some 1) else (if x11 < (x1.length : Int) then ((cmp_Compare_int.f (rd x9 x11) (rd x1 x11)).bind fun t127 => (if t127 = 0 then (slices_Compare_int_int.l0 k x0 x1 x9 x10 (wrap64 (x11 + 1))) else (some t127))) else (none))) else (none)) else (none)) else (if (x0.length : Int) < (x1.length : Int) then (some (-1)) else (some 0))
def slices_Compare_int_int.f (k : Nat) (l0 : List Int) (l1 : List Int) : Option (Int) := slices_Compare_int_int.l0 k l0 l1 l0 (l0.length : Int) 0
set_option maxHeartbeats 8000000 in
set_option maxRecDepth 100000 in
theorem slices_Compare_int_int.calls (k : Nat) (A0 : Option Addr) (c0 : Nat) (l0 : List Int) (A1 : Option Addr) (c1 : Nat) (l1 : List Int) (r : Int) (w : World) (hr0 : Kd.C (Kd.int .i64) w A0 l0.length l0) (hc0 : l0.length ≤ c0) (hr1 : Kd.C (Kd.int .i64) w A1 l1.length l1) (hc1 : l1.length ≤ c1) (h : slices_Compare_int_int.f k l0 l1 = some r) :
  Calls Tryd.prog 110 #[.slice A0 l0.length c0, .slice A1 l1.length c1] w fun e w' => e = .returned (.int .i64 r) ∧ Drawn0 w w' := by
 have HR0 := Aside0.mk hr0; have HC0 := Aside0.mk hc0; clear hr0 hc0; have HR1 := Aside0.mk hr1; have HC1 := Aside0.mk hc1; clear hr1 hc1
 have H : (slices_Compare_int_int.l0 k l0 l1 l0 (l0.length : Int) 0) = some r := h
 clear h; have H' := Aside0.mk H; clear H
 go_enter Tryd.func110, Tryd.ntmps110
 go_wp2
 go_loopg [11] k (fun kq v11 w' => ∃ (x11_1 : Int), v11 = .int .i64 x11_1 ∧ Aside0 (slices_Compare_int_int.l0 kq l0 l1 l0 (l0.length : Int) x11_1 = some r) ∧ Aside0 (kq ≤ k) ∧ Drawn0 w w')
 case atStart => exact ⟨(0), sm, H', ⟨Nat.le_refl _⟩, by repeat (first | exact Drawn0.refl _ | apply Drawn0.step)⟩
 case round =>
  clear H'; (try clear c1); (try clear p2); obtain ⟨x11_1, rfl, HA, HK1, ⟨m1, rfl⟩⟩ := hrel
  cases gk with
  | zero => exact absurd HA.out (by simp [slices_Compare_int_int.l0])
  | succ k1 =>
   have H := HA.out; clear HA
   simp only [slices_Compare_int_int.l0] at H
   by_cases c3 : x11_1 < (l0.length : Int)
   ·rw [if_pos c3] at H; have c3b0 := decide_eq_true c3; clear c3
    by_cases c4 : 0 ≤ x11_1
    ·rw [if_pos c4] at H; have c4b0 := decide_eq_true c4; clear c4
     by_cases c5 : x11_1 < (l0.length : Int)
     ·rw [if_pos c5] at H; have c5b0 := decide_eq_true c5; clear c5
      by_cases c6 : x11_1 ≥ (l1.length : Int)
      ·rw [if_pos c6] at H; have c6b0 := decide_eq_true c6; clear c6; obtain rfl := Option.some.inj H
       have p125 : 0 ≤ (x11_1 : Int) := od
       have q125 : x11_1 < (l0.length : Int) := od
       obtain ⟨ad125, e125, hx125_0⟩ := Kd.at_int HR0.out x11_1 p125 q125
       cases e125
       replace p125 := eq_true p125; replace q125 := eq_true q125
       go_wp2
       go_ret
       exact ⟨sm, by repeat (first | exact Drawn0.refl _ | apply Drawn0.step)⟩
      ·rw [if_neg c6] at H
       have c6b0 : decide ((l1.length : Int) ≤ x11_1) = false := decide_eq_false c6
       clear c6
       by_cases c7 : x11_1 < (l1.length : Int)
       ·rw [if_pos c7] at H; have c7b0 := decide_eq_true c7; clear c7; obtain ⟨t127, A8, H⟩ := ob H
        by_cases c9 : t127 = 0
        ·rw [if_pos c9] at H
         have c9b0 : (t127 == 0) = true := beq_iff_eq.mpr c9
         have c9b1 : (t127 != 0) = false := bne_eq_false_iff_eq.mpr c9
         clear c9; have H' := Aside0.mk H; clear H
         have p125 : 0 ≤ (x11_1 : Int) := od
         have q125 : x11_1 < (l0.length : Int) := od
         obtain ⟨ad125, e125, hx125_0⟩ := Kd.at_int HR0.out x11_1 p125 q125
         cases e125
         replace p125 := eq_true p125; replace q125 := eq_true q125
         have p126 : 0 ≤ (x11_1 : Int) := od
         have q126 : x11_1 < (l1.length : Int) := od
         obtain ⟨ad126, e126, hx126_0⟩ := Kd.at_int HR1.out x11_1 p126 q126
         cases e126
         replace p126 := eq_true p126; replace q126 := eq_true q126
         go_wp2_with (first | ((with_reducible refine gate_callee (f := 114) rfl ?_); refine gl (some 26) Tryd.func114 #[.int .i64 (rd l0 x11_1), .int .i64 (rd l1 x11_1)] ?_; (with_reducible refine (cmp_Compare_int.calls (rd l0 x11_1) (rd l1 x11_1) t127 _ A8.out).mono ?_); rintro e w' ⟨rfl, ⟨nd, rfl⟩⟩; refine ⟨_, rfl, ?_⟩))
         go_roundg k1
         case measure => have := HK1.out; omega
         case rel => exact ⟨(wrap64 (x11_1 + 1)), sm, H', ⟨lo HK1⟩, by repeat (first | exact Drawn0.refl _ | apply Drawn0.step)⟩
        ·rw [if_neg c9] at H
         have c9b0 : (t127 == 0) = false := beq_eq_false_iff_ne.mpr c9
         have c9b1 : (t127 != 0) = true := bne_iff_ne.mpr c9
         obtain rfl := Option.some.inj H
         have p125 : 0 ≤ (x11_1 : Int) := od
         have q125 : x11_1 < (l0.length : Int) := od
         obtain ⟨ad125, e125, hx125_0⟩ := Kd.at_int HR0.out x11_1 p125 q125
         cases e125
         replace p125 := eq_true p125; replace q125 := eq_true q125
         have p126 : 0 ≤ (x11_1 : Int) := od
         have q126 : x11_1 < (l1.length : Int) := od
         obtain ⟨ad126, e126, hx126_0⟩ := Kd.at_int HR1.out x11_1 p126 q126
         cases e126
         replace p126 := eq_true p126; replace q126 := eq_true q126
         go_wp2_with (first | ((with_reducible refine gate_callee (f := 114) rfl ?_); refine gl (some 26) Tryd.func114 #[.int .i64 (rd l0 x11_1), .int .i64 (rd l1 x11_1)] ?_; (with_reducible refine (cmp_Compare_int.calls (rd l0 x11_1) (rd l1 x11_1) t127 _ A8.out).mono ?_); rintro e w' ⟨rfl, ⟨nd, rfl⟩⟩; refine ⟨_, rfl, ?_⟩))
         go_ret
         exact ⟨sm, by repeat (first | exact Drawn0.refl _ | apply Drawn0.step)⟩
       ·rw [if_neg c7] at H
        exact absurd H (by simp)
     ·rw [if_neg c5] at H
      exact absurd H (by simp)
    ·rw [if_neg c4] at H
     exact absurd H (by simp)
   ·rw [if_neg c3] at H
    have c3b0 : decide (x11_1 < (l0.length : Int)) = false := decide_eq_false c3
    clear c3
    by_cases c10 : (l0.length : Int) < (l1.length : Int)
    ·rw [if_pos c10] at H; have c10b0 := decide_eq_true c10
     have c10b1 : decide (l0.length < l1.length) = true := decide_eq_true (Int.ofNat_lt.mp c10)
     clear c10; obtain rfl := Option.some.inj H
     go_wp2
     go_ret
     exact ⟨sm, by repeat (first | exact Drawn0.refl _ | apply Drawn0.step)⟩
    ·rw [if_neg c10] at H
     have c10b0 : decide ((l0.length : Int) < (l1.length : Int)) = false := decide_eq_false c10
     have c10b1 : decide (l0.length < l1.length) = false := decide_eq_false (fun h => c10 (Int.ofNat_lt.mpr h))
     clear c10; obtain rfl := Option.some.inj H
     go_wp2
     go_ret
     exact ⟨sm, by repeat (first | exact Drawn0.refl _ | apply Drawn0.step)⟩
end Go.Proofs.YtekjlpldooihhaaDoor.PA
namespace Go.Proofs.YtekjlpldooihhaaDoorH
set_option linter.unusedVariables false
set_option linter.unusedSimpArgs false
open Go.RowKit Go.Proofs.YtekjlpldooihhaaDoorW.PrintWords Go.Proofs.YtekjlpldooihhaaDoorW.PrintLast Go.Proofs.YtekjlpldooihhaaDoorW.PrintMore
def keyA (ks : List Int) : Value := .agg ((ks.map (Value.int .i64)).toArray)
def intOf? : Value → Option Int
  | .int .i64 n => some n
  | _ => none
def keyOf : Value → Option (List Int)
  | .agg cs => cs.toList.mapM intOf?
  | _ => none
theorem keyOf_keyA (ks : List Int) : keyOf (keyA ks) = some ks := by
  have : ∀ l : List Int, (l.map (Value.int .i64)).mapM intOf? = some l := by
    intro l
    induction l with
    | nil => rfl
    | cons a l ih => simp [List.mapM_cons, intOf?, ih]
  simp [keyOf, keyA, this]
def entryOf (es : List MapEntry) (ks : List Int) : Option Value := (es.find? fun e => keyOf e.key == some ks).map (·.val)
def MapFn (n : Nat) (w : World) (m : Nat) (f : List Int → Option Value) : Prop :=
  ∃ arr clock, w.heap[m]? = some (.map arr clock) ∧ (∀ e ∈ arr.toList, ∃ ks, ks.length = n ∧ e.key = keyA ks) ∧ ∀ ks, ks.length = n → entryOf arr.toList ks = f ks
theorem MapFn.lt {n : Nat} {w : World} {m : Nat} {f : List Int → Option Value} (h : MapFn n w m f) : m < w.heap.size := by
  obtain ⟨arr, clock, h1, _⟩ := h
  exact (Array.getElem?_eq_some_iff.1 h1).1
theorem MapFn.same {n : Nat} {w w1 : World} {m : Nat} {f : List Int → Option Value} (h : MapFn n w m f) (e : w1.heap[m]? = w.heap[m]?) : MapFn n w1 m f := by
  obtain ⟨arr, clock, h1, h2⟩ := h
  exact ⟨arr, clock, e.trans h1, h2⟩
theorem MapFn.below {n : Nat} {w w1 : World} {m : Nat} {f : List Int → Option Value} (h : MapFn n w m f) (hb : Below w.heap.size w w1) : MapFn n w1 m f := h.same (hb.block m h.lt)
theorem MapFn.alloc {n : Nat} {w : World} {m : Nat} {f : List Int → Option Value} (h : MapFn n w m f) (o : Obj) : MapFn n (w.alloc o) m f := h.below (below_alloc (Below.refl _ _) o)
theorem MapFn.drew {n : Nat} {w : World} {m : Nat} {f : List Int → Option Value} (h : MapFn n w m f) : MapFn n w.drew m f := h.same rfl
theorem MapFn.drewN {n : Nat} {w : World} {m : Nat} {f : List Int → Option Value} (h : MapFn n w m f) (k : Nat) : MapFn n (w.drewN k) m f := h.same rfl
theorem MapFn.imp {n : Nat} {w : World} {m : Nat} {f g : List Int → Option Value} (h : MapFn n w m f) (e : ∀ ks, ks.length = n → f ks = g ks) : MapFn n w m g := by
  obtain ⟨arr, clock, h1, h2, h3⟩ := h
  exact ⟨arr, clock, h1, h2, fun ks hk => (h3 ks hk).trans (e ks hk)⟩
theorem MapFn.new (n : Nat) (w : World) : MapFn n (w.alloc (.map #[] 0)) w.heap.size (fun _ => none) :=
  ⟨#[], 0, blk_new w _, by simp, fun ks _ => by simp [entryOf]⟩
section
variable {P : Program} {K : TypeId} {n : Nat}
theorem getMap {w : World} {m : Nat} {arr : Array MapEntry} {clock : Nat} (h : w.heap[m]? = some (.map arr clock)) : (getObj m).run P w = .ok (.map arr clock) w := by simp [getObj, Sem.run, h]
theorem setMap {w : World} {m : Nat} {arr : Array MapEntry} {clock : Nat} (o : Obj) (h : w.heap[m]? = some (.map arr clock)) : (setObj m o).run P w = .ok () (w.putObj m o) := by simp [setObj, Sem.run, h, World.putObj]
structure KeyEq (P : Program) (K n : Nat) : Prop where
  desc : ∃ fs, P.underlying K = some (.struct fs)
  check : ∀ (em : Bool) (a : List Int), a.length = n → ∀ w, (Instr.checkKey em 10000 K (keyA a)).run P w = .ok () w
  eq : ∀ a b : List Int, a.length = n → b.length = n → ∀ w, (Op.equal K (keyA a) (keyA b)).run P w = .ok (decide (a = b)) w
theorem run_findAsking (hK : KeyEq P K n) (ks : List Int) (hk : ks.length = n) (w : World) : ∀ (es : List MapEntry) (i : Nat), (∀ e ∈ es, ∃ ls, ls.length = n ∧ e.key = keyA ls) →
    (Instr.findAsking K (keyA ks) es i).run P w = .ok (((es.zipIdx i).find? fun p => keyOf p.1.key == some ks).map fun p => (p.2, p.1.val)) w := by
  intro es
  induction es with
  | nil => intro i _; simp [Instr.findAsking]
  | cons e es ih =>
    intro i h
    obtain ⟨ls, hl, he⟩ := h e List.mem_cons_self
    rw [Instr.findAsking]
    simp only [Sem.run_bind, he, hK.eq ks ls hk hl w, Result.andThen_ok, List.zipIdx_cons, List.find?_cons, keyOf_keyA]
    by_cases hq : ks = ls
    · subst hq; simp
    · have h1 : (some ls == some ks) = false := by simpa using fun h => hq h.symm
      simp only [hq, decide_false, Bool.false_eq_true, ↓reduceIte, h1]
      exact ih (i + 1) (fun e he => h e (List.mem_cons_of_mem _ he))
theorem run_findKey (hK : KeyEq P K n) (ks : List Int) (hk : ks.length = n) (w : World) (es : List MapEntry) (h : ∀ e ∈ es, ∃ ls, ls.length = n ∧ e.key = keyA ls) :
    (Instr.findKey K (keyA ks) es).run P w = .ok (((es.zipIdx 0).find? fun p => keyOf p.1.key == some ks).map fun p => (p.2, p.1.val)) w := by
  obtain ⟨fs, hd⟩ := hK.desc
  unfold Instr.findKey
  simp only [Sem.run_bind, run_underlying hd, Result.andThen_ok]
  cases es with
  | nil => simp [Instr.findNow]
  | cons e es =>
    obtain ⟨ls, hl, he⟩ := h e List.mem_cons_self
    have h0 : Instr.findNow (.struct fs) (keyA ks) (e :: es) 0 = none := by simp [Instr.findNow, Instr.sameNow]
    rw [h0]
    exact run_findAsking hK ks hk w (e :: es) 0 h
theorem find_zip {α : Type} (p : α → Bool) : ∀ (es : List α) (i : Nat), (((es.zipIdx i).find? fun q => p q.1).map fun q => q.1) = es.find? p := by
  intro es
  induction es with
  | nil => intro i; rfl
  | cons e es ih => intro i; simp only [List.zipIdx_cons, List.find?_cons]; cases p e <;> simp [ih]
theorem run_lookup_fn (T E : TypeId) (hT : P.underlying T = some (.map K E)) (hK : KeyEq P K n) {z : Value} (hz : ∀ w, (zeroValue E).run P w = .ok z w) {w : World} {m : Nat} {f : List Int → Option Value} (h : MapFn n w m f) (ks : List Int) (hk : ks.length = n) (ok : Bool) :
    (Instr.lookup T (.map (some m)) (keyA ks) ok).run P w = .ok (if ok then .tuple #[(f ks).getD z, .bool (f ks).isSome] else (f ks).getD z) w := by
  obtain ⟨arr, clock, h1, h2, h3⟩ := h
  have h4 := h3 ks hk
  have hf := run_findKey hK ks hk w arr.toList h2
  have hz4 := find_zip (fun e : MapEntry => keyOf e.key == some ks) arr.toList 0
  unfold entryOf at h4
  rw [← hz4] at h4
  unfold Instr.lookup
  simp only [Sem.run_bind, run_underlying hT, Result.andThen_ok, getMap h1, Sem.run_pure, hK.check _ ks hk, hf]
  revert h4
  cases ((arr.toList.zipIdx 0).find? fun p => keyOf p.1.key == some ks) with
  | none => intro h4; simp only [Option.map_none] at h4 ⊢; rw [← h4]; cases ok <;> simp [hz]
  | some p => intro h4; simp only [Option.map_some] at h4 ⊢; rw [← h4]; cases ok <;> simp
theorem run_insert_new (T E : TypeId) (hT : P.underlying T = some (.map K E)) (hK : KeyEq P K n) {W : World} {m : Nat} (h : W.heap[m]? = some (.map #[] 0)) (ks : List Int) (hk : ks.length = n) (v : Value) :
    (Instr.mapUpdate T (.map (some m)) (keyA ks) v).run P W = .ok () (W.putObj m (.map #[⟨keyA ks, v, 0⟩] 1)) := by
  have hf := run_findKey hK ks hk W [] (by simp)
  unfold Instr.mapUpdate
  simp only [Sem.run_bind, run_underlying hT, Result.andThen_ok, getMap h, hK.check _ ks hk, hf]
  simp [setMap _ h]
theorem putObj_new (W : World) (o o' : Obj) : (W.alloc o).putObj W.heap.size o' = W.alloc o' := by
  simp only [World.alloc, World.putObj, World.mk.injEq, and_true]
  apply Array.ext_getElem?
  intro i
  rw [Array.getElem?_setIfInBounds]
  by_cases h : W.heap.size = i
  · subst h; simp
  · rw [if_neg h, Array.getElem?_push, Array.getElem?_push, if_neg (fun e => h e.symm), if_neg (fun e => h e.symm)]
theorem putObj_drew (W : World) (m : Nat) (o : Obj) : W.drew.putObj m o = (W.putObj m o).drew := rfl
theorem MapFn.one (W : World) (ks : List Int) (v : Value) (m : Nat) (h : W.heap[m]? = some (.map #[⟨keyA ks, v, 0⟩] 1)) : MapFn ks.length W m (fun ls => if ls = ks then some v else none) :=
  ⟨_, _, h, fun e he => ⟨ks, rfl, by simp at he; rw [he]⟩, fun ls _ => by
    by_cases e : ls = ks
    · subst e; simp [entryOf, keyOf_keyA]
    · have : (some ks == some ls) = false := by simpa using fun h => e h.symm
      simp [entryOf, keyOf_keyA, List.find?_cons, this, e]⟩
theorem sameBits_ints : ∀ (d : Nat) (ks : List Int), 2 ≤ d → Instr.sameBits d (keyA ks) (keyA ks) = true := by
  intro d ks hd
  obtain ⟨d, rfl⟩ : ∃ e, d = e + 2 := ⟨d - 2, by omega⟩
  unfold keyA
  simp only [Instr.sameBits, beq_self_eq_true, Bool.true_and]
  rw [List.all_eq_true]
  intro p hp
  have : p.1 = p.2 ∧ ∃ a : Int, p.1 = .int .i64 a := by
    simp only [List.zip_map_left, List.zip_map_right, List.mem_map] at hp
    obtain ⟨⟨x, y⟩, ⟨⟨x', y'⟩, hz, hzz⟩, he⟩ := hp
    have : x' = y' := by
      have hzi : ∀ (l : List Int) (q : Int × Int), q ∈ l.zip l → q.1 = q.2 := by
        intro l; induction l with
        | nil => simp
        | cons a l ih => intro q hq; simp only [List.zip_cons_cons, List.mem_cons] at hq; rcases hq with rfl | hq; rfl; exact ih q hq
      exact hzi ks _ hz
    subst this
    simp at hzz he
    obtain ⟨rfl, rfl⟩ := hzz
    subst he
    exact ⟨rfl, _, rfl⟩
  obtain ⟨h1, a, h2⟩ := this
  obtain ⟨x, y⟩ := p
  simp only at h1 h2
  subst h1
  subst h2
  simp [Instr.sameBits]
theorem run_mapUpdate_fn (T E : TypeId) (hT : P.underlying T = some (.map K E)) (hK : KeyEq P K n) {w : World} {m : Nat} {f : List Int → Option Value} (h : MapFn n w m f) (ks : List Int) (hk : ks.length = n) (v : Value) :
    ∃ w1, (Instr.mapUpdate T (.map (some m)) (keyA ks) v).run P w = .ok () w1 ∧ MapFn n w1 m (fun ls => if ls = ks then some v else f ls) ∧ w.grownBy w1 (some m) := by
  obtain ⟨arr, clock, h1, h2, h3⟩ := h
  have hf := run_findKey hK ks hk w arr.toList h2
  have hlt : m < w.heap.size := (Array.getElem?_eq_some_iff.1 h1).1
  unfold Instr.mapUpdate
  simp only [Sem.run_bind, run_underlying hT, Result.andThen_ok, getMap h1, hK.check _ ks hk, hf]
  have hz4 := fun ls : List Int => find_zip (fun e : MapEntry => keyOf e.key == some ls) arr.toList 0
  cases hq : ((arr.toList.zipIdx 0).find? fun p => keyOf p.1.key == some ks) with
  | none =>
    refine ⟨w.putObj m (.map (arr.push { key := keyA ks, val := v, born := clock }) (clock + 1)), ?_, ⟨_, _, World.putObj_heap_same hlt, ?_, ?_⟩, grownBy_putObj' w m _⟩
    · simp [setMap _ h1]
    · intro e he
      simp only [Array.toList_push, List.mem_append, List.mem_singleton] at he
      rcases he with he | rfl
      · exact h2 e he
      · exact ⟨ks, hk, rfl⟩
    · intro ls hl
      have hn : arr.toList.find? (fun e : MapEntry => keyOf e.key == some ks) = none := by rw [← hz4 ks, hq]; rfl
      have h3' := h3 ls hl
      unfold entryOf at h3' ⊢
      rw [Array.toList_push, List.find?_append]
      by_cases e : ls = ks
      · subst e
        simp [hn, keyOf_keyA]
      · have h1 : (some ks == some ls) = false := by simpa using fun h => e h.symm
        simp only [if_neg e, ← h3', List.find?_cons, keyOf_keyA, h1, List.find?_nil, Option.or_none]
  | some p =>
    obtain ⟨e0, i⟩ := p
    have hmem := List.mem_of_find?_eq_some hq
    have hpred := List.find?_some hq
    simp only [beq_iff_eq] at hpred
    obtain ⟨hi0, hi1, hi2⟩ := List.mem_zipIdx hmem
    simp only [Nat.zero_add, Nat.sub_zero, Array.length_toList] at hi1 hi2
    have hkey : e0.key = keyA ks := by
      obtain ⟨ls, _, hl2⟩ := h2 e0 (by rw [hi2]; exact Array.getElem_mem_toList _)
      rw [hl2, keyOf_keyA] at hpred
      rw [hl2, Option.some.inj hpred]
    have hget : arr[i]? = some e0 := by rw [hi2, Array.getElem_toList]; exact Array.getElem?_eq_getElem hi1
    have hold : ((arr[i]?).map (·.key)).getD (keyA ks) = keyA ks := by rw [hget]; simp [hkey]
    have hmod : arr.modify i (fun e => { e with key := keyA ks, val := v }) = arr.modify i (fun e => { e with val := v }) := by
      apply Array.ext_getElem?
      intro j
      rw [Array.getElem?_modify, Array.getElem?_modify]
      by_cases hj : i = j
      · subst hj; rw [hget]; simp [← hkey]
      · simp [hj]
    refine ⟨w.putObj m (.map (arr.modify i fun e => { e with val := v }) clock), ?_, ⟨_, _, World.putObj_heap_same hlt, ?_, ?_⟩, grownBy_putObj' w m _⟩
    · simp only [Option.map_some, Sem.run_bind, hold, Instr.keyThatStays, sameBits_ints 10000 ks (by omega), ↓reduceIte, Sem.run_pure, Result.andThen_ok, hmod]
      simp [setMap _ h1]
    · intro e he
      rw [Array.mem_toList_iff] at he
      obtain ⟨j, hj, rfl⟩ := Array.getElem_of_mem he
      rw [Array.getElem_modify]
      have hj' : j < arr.size := by simpa using hj
      obtain ⟨ls, hl⟩ := h2 arr[j] (Array.getElem_mem_toList _)
      split
      · exact ⟨ls, hl⟩
      · exact ⟨ls, hl⟩
    · intro ls hl
      have h3' := h3 ls hl
      unfold entryOf at h3' ⊢
      have hm : ∀ (l : List MapEntry) (k : Nat) (g : MapEntry → MapEntry), (∀ e, (g e).key = e.key) → (l.modify k g).find? (fun e => keyOf e.key == some ls) = ((l.zipIdx 0).find? (fun p => keyOf p.1.key == some ls)).map (fun p => if p.2 = k then g p.1 else p.1) := by
        intro l k g hg
        have gen : ∀ (l : List MapEntry) (k s : Nat), (l.modify k g).find? (fun e => keyOf e.key == some ls) = ((l.zipIdx s).find? (fun p => keyOf p.1.key == some ls)).map (fun p => if p.2 = k + s then g p.1 else p.1) := by
          intro l
          induction l with
          | nil => intro k s; simp
          | cons e l ih =>
            intro k s
            cases k with
            | zero =>
              simp only [List.modify_zero_cons, List.find?_cons, List.zipIdx_cons, hg, Nat.zero_add]
              cases hc : (keyOf e.key == some ls) with
              | true => simp
              | false =>
                have := find_zip (fun e : MapEntry => keyOf e.key == some ls) l (s + 1)
                simp only
                rw [← this]
                cases hw : (l.zipIdx (s + 1)).find? (fun p => keyOf p.1.key == some ls) with
                | none => rfl
                | some p =>
                  have := (List.mem_zipIdx (List.mem_of_find?_eq_some hw)).1
                  simp only [Option.map_some]
                  rw [if_neg (by omega)]
            | succ k =>
              simp only [List.modify_succ_cons, List.find?_cons, List.zipIdx_cons]
              cases hc : (keyOf e.key == some ls) with
              | true => simp only [Option.map_some]; rw [if_neg (by omega)]
              | false => simp only; rw [ih k (s + 1)]; congr 1; funext p; congr 1; simp only [eq_iff_iff]; omega
        simpa using gen l k 0
      rw [show (arr.modify i fun e => { e with val := v }).toList = arr.toList.modify i (fun e => { e with val := v }) from by simp]
      refine (congrArg (Option.map (·.val)) (hm arr.toList i (fun e => { e with val := v }) (fun e => rfl))).trans ?_
      show _ = if ls = ks then some v else f ls
      by_cases e : ls = ks
      · subst e
        rw [if_pos rfl, hq]
        simp
      · rw [if_neg e, ← h3', ← hz4 ls]
        cases hw : (arr.toList.zipIdx 0).find? (fun p => keyOf p.1.key == some ls) with
        | none => rfl
        | some p =>
          simp only [Option.map_some]
          split
          · rename_i hpi
            exfalso
            obtain ⟨_, hp1, hp2⟩ := List.mem_zipIdx (List.mem_of_find?_eq_some hw)
            have hp3 := List.find?_some hw
            simp only [beq_iff_eq] at hp3
            have : p.1 = e0 := by rw [hp2, hi2]; congr 1
            rw [this, hkey, keyOf_keyA] at hp3
            exact e (Option.some.inj hp3).symm
          · rfl
end
section
variable {P : Program} {F : Fence} {n : Nat} {b : Frame} {a : Act} {k : List Item} {cs : List Frame} {w : World} {Q : Exit → Act → World → Prop}
theorem stepR_scope {c : Code} : step P (lone (b.atR a (.code (.scope c) :: k)) cs w) = .next (lone (b.atR a (.code c :: .inScope c :: k)) cs w) :=
  step_lone_go (by simp [stepG, stepG.exec, Frame.atR])
theorem stepR_inScope {c : Code} : step P (lone (b.atR a (.inScope c :: k)) cs w) = .next (lone (b.atR a k) cs w) :=
  step_lone_go (by simp [stepG, stepG.exec, Frame.atR])
theorem wpIn_scope {c : Code} (h : c.wpIn F n P (Exit.noGoto Q) a w) : (Code.scope c).wpIn F n P Q a w := by
  intro b k cs hro hb hr
  have h0 : (lone (b.atR a (.code (.scope c) :: k)) cs w).fenced P F := fenced_calm hb hr rfl
  obtain ⟨e, a₁, w₁, hq, harr⟩ := h b (.inScope c :: k) cs hro hb hr
  cases e with
  | normal => exact ⟨.normal, a₁, w₁, hq, .head h0 stepR_scope (StepsIn.trans harr (.one (fenced_calm hb hr rfl) stepR_inScope))⟩
  | exit id =>
    have hx : exitTo id (.inScope c :: k) = exitTo id k := by simp [exitTo]
    exact ⟨_, a₁, w₁, hq, fun k' hk => .head h0 stepR_scope (harr.1 k' (by rw [hx]; exact hk)),
      fun hr' hk => let ⟨k₁, h1, h2⟩ := harr.2 hr' (by rw [hx]; exact hk); ⟨k₁, h1, .head h0 stepR_scope h2⟩⟩
  | goto l => exact hq.elim
  | ret => exact ⟨_, a₁, w₁, hq, .of_steps (.one h0 stepR_scope) harr⟩
  | panic ch => exact ⟨_, a₁, w₁, hq, .of_steps (.one h0 stepR_scope) harr⟩
  | outgrown => exact ⟨_, a₁, w₁, hq, .of_steps (.one h0 stepR_scope) harr⟩
end
theorem goesV_ {P : Program} {ops : Array Oper} {Q : Exit → Act → World → Prop} {oi : Oper} {N : Option Tmp} {a : Act} {w : World} {K : Act → World → Prop} {f : FuncId} {fn : Func} {x : Operand} {fst cap : Array Value} {ars : Array Operand} {ts : Array TypeId} (hf : P.funcs[f]? = some fn) (hname : (fn.name == "runtime.NumGoroutine") = false) (hb : fn.body.isSome = true) (args : Array Value)
    (hw : Region.wanted oi (yielded ops a.tmps) = true) (hN : oi.dst = N) (hop : oi.op = .call { callee := .value x, args := ars, argTypes := ts }) (hx : a.eval x = .func (.func f) fst cap) (hargs : fst ++ ars.map a.eval ++ cap = args)
    (h : Calls P f args w fun e w' => ∃ v, e = .returned v ∧ K (a.put N v) w') : if Region.wanted oi (yielded ops a.tmps) = true then Oper.wp P oi a w K Q else K (a.put N undef) w := by
  refine call_ f args hw hN ?_ h
  have he := enters_ hf hname hb args w
  unfold execOp
  simp only [hop, resolve, hx]
  simp only [Deferred.ofValue, invoke, Sem.run_bind, Sem.run_pure, Result.andThen_ok]
  simpa [hargs] using he
theorem turn_cells {A B : World} {row : Option Nat} {b g : Nat} {cs : Array Value} {t : TypeId} {fr : Nat × Nat} (h : A.heap[g]? = some (.cells cs t fr)) (hg : A.grownBy B row) (hr : ∀ r, row = some r → b ≤ r ∧ ∃ o : Obj, A.heap[r]? = some o ∧ o.isCells = false) : B.heap[g]? = some (.cells cs t fr) := by
  refine (hg.block g (blk_lt h) (fun e => ?_)).trans h
  obtain ⟨_, o, ho, hc⟩ := hr g e.symm
  rw [h] at ho
  cases ho
  cases hc
theorem turn_map {A B : World} {row : Option Nat} {b n m : Nat} {f : List Int → Option Value} (h : MapFn n A m f) (hm : m < b) (hg : A.grownBy B row) (hr : ∀ r, row = some r → b ≤ r ∧ ∃ o : Obj, A.heap[r]? = some o ∧ o.isCells = false) : MapFn n B m f :=
  h.same (hg.block m h.lt (fun e => by have := (hr m e.symm).1; omega))
theorem turn_R {α : Type} {d : Kd α} {e base : Nat} {A B : World} {ok : Nat → Prop} {v : Value} {xs : List α} {row : Option Nat} {b : Nat} (h : d.R e A base ok v xs) (hg : A.grownBy B row) (hr : ∀ r, row = some r → b ≤ r ∧ ∃ o : Obj, A.heap[r]? = some o ∧ o.isCells = false) : d.R e B base ok v xs := by
  refine Kd.R_mono (Kd.R_move (Kd.R_bound h) (fun k hk => ?_)) (fun k hk => hk.1)
  obtain ⟨_, _, _, q, _, cells', hc⟩ := hk
  exact (turn_cells hc hg hr).trans hc.symm
def KeepsOf (B : Nat) (Kp : World → World → Prop) : Prop := (∀ {X Y Z : World}, Kp X Y → Kp Y Z → Kp X Z) ∧ ∀ (W : World) (l : Nat) (o o' : Obj), B ≤ l → W.heap[l]? = some o → o.isCells = false → o.isWalk = false → Kp W (W.putObj l o')
def KeepG (g : Nat) (W W' : World) : Prop := ∀ k, g ≤ k → k < g + 4 → W'.heap[k]? = W.heap[k]?
theorem KeepG.refl (g : Nat) (W : World) : KeepG g W W := fun _ _ _ => rfl
theorem KeepG.trans {g : Nat} {X Y Z : World} (h : KeepG g X Y) (k : KeepG g Y Z) : KeepG g X Z := fun i h1 h2 => (k i h1 h2).trans (h i h1 h2)
theorem KeepG.drew {g : Nat} {X Y : World} (h : KeepG g X Y) : KeepG g X Y.drew := h
theorem grownBy_putObj_at (W : World) (l : Nat) (o : Obj) (k : Nat) (h : k ≠ l) : (W.putObj l o).heap[k]? = W.heap[k]? := by
  show (W.heap.setIfInBounds l o)[k]? = _
  rw [Array.getElem?_setIfInBounds_ne (fun e => h e.symm)]
theorem KeepG.keeps {g B : Nat} (h : g + 4 ≤ B) : KeepsOf B (KeepG g) := ⟨fun h k => h.trans k, fun W l o o' hB _ _ _ i h1 h2 => (grownBy_putObj_at W l o' i (by omega))⟩
theorem run_eqItems_fn {P : Program} {w : World} {d : Nat} {e c : Nat} {xs ys : Array Value} (f g : Nat → Value) (q : Nat → Bool) : ∀ (is : List Nat), (∀ i ∈ is, (part e xs (i * c)).run P w = .ok (f i) w) → (∀ i ∈ is, (part e ys (i * c)).run P w = .ok (g i) w) →
    (∀ i ∈ is, (Op.equalIn d e (f i) (g i)).run P w = .ok (q i) w) → (Op.eqItems d e c xs ys is).run P w = .ok (is.all q) w
  | [], _, _, _ => by simp [Op.eqItems]
  | i :: is, h1, h2, h3 => by
    simp only [Op.eqItems, Sem.run_bind, h1 i List.mem_cons_self, h2 i List.mem_cons_self, h3 i List.mem_cons_self, Result.andThen_ok, List.all_cons]
    have ih := run_eqItems_fn f g q is (fun j hj => h1 j (List.mem_cons_of_mem _ hj)) (fun j hj => h2 j (List.mem_cons_of_mem _ hj)) (fun j hj => h3 j (List.mem_cons_of_mem _ hj))
    cases q i
    · simp
    · simpa using ih
theorem undrew {B : Nat} {w w1 : World} (h : Below B w.drew w1) : Below B w w1 := ⟨h.os, h.tape, h.output, h.size, h.block⟩
theorem MapFn.grown {n : Nat} {w w1 : World} {m : Nat} {f : List Int → Option Value} (h : MapFn n w m f) {row : Option Nat} (hg : w.grownBy w1 row) (hne : some m ≠ row) : MapFn n w1 m f := h.same (hg.block m h.lt hne)
theorem MapFn.set {n : Nat} {w : World} {m : Nat} {f : List Int → Option Value} (h : MapFn n w m f) (p : Addr) (u : Value) (hne : m ≠ p.block) : MapFn n (w.setCell p u) m f := h.same (Below.heap_setCell _ _ _ _ hne)
theorem at_nat {w : World} {A : Option Addr} {n : Nat} {l : List Int} (h : Kd.C (Kd.int .i64) w A n l) (k : Nat) (hk : k < n) : ∃ ad, A = some ad ∧ w.cell? (ad.add k) = some (.int .i64 (rd l k)) := by
  have := Kd.at_int h (k : Int) (by omega) (by omega)
  simpa using this
theorem encs_map {α : Type} (f : α → Value) (l : List α) : encs f l = l.map f := by
  apply List.ext_getElem?
  intro j
  simp [encs]
theorem cut_V {e : TypeId} {w : World} {base : Nat} {A : Option Addr} {n c : Nat} {xs : List Int} (h : w.ownsRow base e 1 (.slice A n c) xs.length (xs.map (Value.int .i64))) :
    Kd.V (Kd.int .i64) e w base (fun k => base ≤ k) (.slice A xs.length xs.length) xs := by
  have h1 : (Kd.int .i64).R e w base (fun k => base ≤ k) (.slice A n c) xs := Kd.R_of_own (by rw [encs_map]; exact h) (fun k hk => own_base h k hk)
  have h2 := Kd.V_at (Kd.R_V (base' := base) h1)
  exact Kd.V_mk (Nat.le_refl _) h2.2.2
theorem and1 (x : Int) (h0 : 0 ≤ x) (h1 : x < 256) : Go.bits .and .i64 x 1 = x % 2 :=
  bits_mask .i64 8 (by decide) (fun n h0 h1 => by rw [IntKind.wrap_i64]; omega) 1 (by decide) x h0 h1
theorem bit_at (s k : Nat) (hs : s < 256) : (Go.bits .and .i64 ((s : Int) / 2 ^ k) 1 == 1) = (s / 2 ^ k % 2 == 1) := by
  have e : (s : Int) / 2 ^ k = ((s / 2 ^ k : Nat) : Int) := by simp
  have hle : s / 2 ^ k ≤ s := Nat.div_le_self _ _
  rw [e]
  generalize s / 2 ^ k = q at hle ⊢
  rw [and1 _ (by omega) (by omega), Bool.eq_iff_iff]
  simp only [beq_iff_eq]
  omega
end Go.Proofs.YtekjlpldooihhaaDoorH
namespace Go.Proofs.YtekjlpldooihhaaDoorEv
set_option linter.unusedVariables false
set_option linter.unusedSimpArgs false
open Go.RowKit Go.Proofs.YtekjlpldooihhaaDoorW.PrintWords
def Evt {α : Type} (f : Nat → Option α) (v : α) : Prop := ∃ k0, ∀ k, k0 ≤ k → f k = some v
theorem Evt.pure {α : Type} (v : α) : Evt (fun _ => some v) v := ⟨0, fun _ _ => rfl⟩
theorem Evt.of_eq {α : Type} {f : Nat → Option α} {v v' : α} (h : Evt f v) (e : v = v') : Evt f v' := e ▸ h
theorem Evt.const {α : Type} {x : Option α} {v : α} (h : x = some v) : Evt (fun _ => x) v := ⟨0, fun _ _ => h⟩
theorem Evt.succ {α : Type} {f : Nat → Option α} {v : α} (h : Evt (fun k => f (k + 1)) v) : Evt f v := by
  obtain ⟨k0, hk⟩ := h
  exact ⟨k0 + 1, fun k h => by obtain ⟨j, rfl⟩ : ∃ j, k = j + 1 := ⟨k - 1, by omega⟩; exact hk j (by omega)⟩
theorem Evt.bind {α β : Type} {f : Nat → Option α} {g : Nat → α → Option β} {v : α} {r : β} (h : Evt f v) (hg : Evt (fun k => g k v) r) : Evt (fun k => (f k).bind (g k)) r := by
  obtain ⟨a, ha⟩ := h
  obtain ⟨b, hb⟩ := hg
  exact ⟨max a b, fun k h => by show (f k).bind (g k) = _; rw [ha k (by omega)]; exact hb k (by omega)⟩
theorem Evt.map {α β : Type} {f : Nat → Option α} {g : α → β} {v : α} (h : Evt f v) : Evt (fun k => (f k).map g) (g v) := by
  obtain ⟨a, ha⟩ := h
  exact ⟨a, fun k h => by show (f k).map g = _; rw [ha k h]; rfl⟩
theorem Evt.of_mono {α : Type} {f : Nat → Option α} {v : α} (hm : ∀ k, LeO (f k) (f (k + 1))) {k : Nat} (h : f k = some v) : Evt f v :=
  ⟨k, fun j hj => by
    induction j with
    | zero => rw [show k = 0 by omega] at h; exact h
    | succ j ih => by_cases e : k = j + 1
                   · rw [← e]; exact h
                   · exact hm j v (ih (by omega))⟩
theorem Evt.ite {α : Type} {c : Prop} [Decidable c] {f g : Nat → Option α} {v : α} (h1 : c → Evt f v) (h2 : ¬ c → Evt g v) : Evt (fun k => if c then f k else g k) v := by
  by_cases h : c
  · simp only [if_pos h]; exact h1 h
  · simp only [if_neg h]; exact h2 h
theorem Evt.pos {α : Type} {c : Prop} [Decidable c] {f g : Nat → Option α} {v : α} (h : c) (h1 : Evt f v) : Evt (fun k => if c then f k else g k) v := by simp only [if_pos h]; exact h1
theorem Evt.neg {α : Type} {c : Prop} [Decidable c] {f g : Nat → Option α} {v : α} (h : ¬ c) (h1 : Evt g v) : Evt (fun k => if c then f k else g k) v := by simp only [if_neg h]; exact h1
theorem Evt.get {α : Type} {f : Nat → Option α} {v : α} (h : Evt f v) : ∃ k, f k = some v := by
  obtain ⟨a, ha⟩ := h; exact ⟨a, ha a (Nat.le_refl _)⟩
theorem Evt.congr {α : Type} {f g : Nat → Option α} {v : α} (h : Evt f v) (e : ∀ k, g k = f k) : Evt g v := by
  rwa [show g = f from funext e]
end Go.Proofs.YtekjlpldooihhaaDoorEv
namespace Go.Proofs.YtekjlpldooihhaaDoorP
open Go.RowKit Go.Proofs.YtekjlpldooihhaaDoorW.PrintWords Go.Proofs.YtekjlpldooihhaaDoorW.PrintLast Go.Proofs.YtekjlpldooihhaaDoorW.PrintMore Go.Proofs.YtekjlpldooihhaaDoorH Go.Proofs.YtekjlpldooihhaaDoorEv Go.Proofs.YtekjlpldooihhaaDoor.PA
set_option linter.unusedVariables false
set_option linter.unusedSimpArgs false
theorem new1 (w : World) (a : Obj) : (w.alloc a).heap[w.heap.size]? = some a ∧ Below w.heap.size w (w.alloc a) ∧ (w.alloc a).heap.size = w.heap.size + 1 := ⟨blk_new w a, below_alloc (Below.refl w.heap.size w) a, by simp⟩
theorem new2 (w : World) (a b : Obj) : ((w.alloc a).alloc b).heap[w.heap.size]? = some a ∧ ((w.alloc a).alloc b).heap[w.heap.size + 1]? = some b ∧ Below w.heap.size w ((w.alloc a).alloc b) ∧ ((w.alloc a).alloc b).heap.size = w.heap.size + 1 + 1 := by
  refine ⟨?_, ?_, below_alloc (below_alloc (Below.refl w.heap.size w) a) b, by simp⟩
  · exact (Below.heap_alloc _ _ _ (by simp)).trans (World.alloc_heap_new w a)
  · have := World.alloc_heap_new (w.alloc a) b; rwa [World.size_alloc] at this
theorem new3 (w : World) (a b c : Obj) : (((w.alloc a).alloc b).alloc c).heap[w.heap.size]? = some a ∧ (((w.alloc a).alloc b).alloc c).heap[w.heap.size + 1]? = some b ∧ (((w.alloc a).alloc b).alloc c).heap[w.heap.size + 1 + 1]? = some c ∧ Below w.heap.size w (((w.alloc a).alloc b).alloc c) ∧ (((w.alloc a).alloc b).alloc c).heap.size = w.heap.size + 1 + 1 + 1 := by
  obtain ⟨h1, h2, h3, h4⟩ := new2 w a b
  refine ⟨(Below.heap_alloc _ _ _ (by omega)).trans h1, (Below.heap_alloc _ _ _ (by omega)).trans h2, ?_, below_alloc h3 c, by simp⟩
  have := World.alloc_heap_new ((w.alloc a).alloc b) c; rwa [h4] at this
theorem below_far {w w1 : World} {g : Nat} {o : Obj} (h : w.heap[g]? = some o) (hb : Below w.heap.size w w1) : w1.heap[g]? = some o := (hb.block g (Array.getElem?_eq_some_iff.1 h).1).trans h
def rowI (f : Nat → Bool) : Array Value := ((List.range 16).map fun i => Value.bool (f i)).toArray
theorem rowI_size (f : Nat → Bool) : (rowI f).size = 16 := by simp [rowI]
theorem rowI_get (f : Nat → Bool) (k : Nat) (h : k < 16) : (rowI f)[k]? = some (.bool (f k)) := by
  unfold rowI
  rw [List.getElem?_toArray, List.getElem?_map, List.getElem?_range h]; rfl
def zeroI : Array Value := #[Value.bool false, Value.bool false, Value.bool false, Value.bool false, Value.bool false, Value.bool false, Value.bool false, Value.bool false, Value.bool false, Value.bool false, Value.bool false, Value.bool false, Value.bool false, Value.bool false, Value.bool false, Value.bool false]
theorem rowI_zero : #[Value.bool false, Value.bool false, Value.bool false, Value.bool false, Value.bool false, Value.bool false, Value.bool false, Value.bool false, Value.bool false, Value.bool false, Value.bool false, Value.bool false, Value.bool false, Value.bool false, Value.bool false, Value.bool false] = rowI fun _ => false := rfl
theorem rowI_one (f : Nat → Bool) : (rowI f).all (·.oneCell') = true := by simp [rowI, Value.oneCell']
theorem rowI_set (f : Nat → Bool) (k : Nat) (h : k < 16) (b : Bool) : (rowI f).setIfInBounds k (.bool b) = rowI (fun j => if j = k then b else f j) := by
  apply Array.ext_getElem?
  intro i
  rw [Array.getElem?_setIfInBounds, rowI_size]
  by_cases hi : i < 16
  · rw [rowI_get _ _ hi]
    by_cases e : k = i
    · subst e; rw [rowI_get _ _ h]; simp [h]
    · rw [if_neg e, rowI_get _ _ hi, if_neg (fun h => e h.symm)]
  · rw [Array.getElem?_eq_none (by rw [rowI_size]; omega)]
    rw [if_neg (by omega), Array.getElem?_eq_none (by rw [rowI_size]; omega)]
theorem rowI_congr {f g : Nat → Bool} (h : ∀ k, k < 16 → f k = g k) : rowI f = rowI g := by
  apply Array.ext_getElem?
  intro i
  by_cases hi : i < 16
  · rw [rowI_get _ _ hi, rowI_get _ _ hi, h i hi]
  · rw [Array.getElem?_eq_none (by rw [rowI_size]; omega), Array.getElem?_eq_none (by rw [rowI_size]; omega)]
theorem rowI_cell {w : World} {g t : Nat} {f : Nat → Bool} (h : w.heap[g]? = some (.cells (rowI f) t (0, 0))) (k : Nat) (hk : k < 16) : w.cell? ⟨g, k, none⟩ = some (.bool (f k)) := (blk_cell h k).trans (rowI_get f k hk)
theorem rowI_C {w : World} {g t : Nat} {f : Nat → Bool} (h : w.heap[g]? = some (.cells (rowI f) t (0, 0))) (lo n : Nat) (hn : lo + n ≤ 16) : Kd.C Kd.bool w (some ⟨g, lo, none⟩) ((List.range' lo n).map f).length ((List.range' lo n).map f) := by
  refine ⟨rfl, by simp [maxLen]; omega, fun _ => ⟨_, rfl, fun j x hx => ?_⟩⟩
  have hj : j < n := by have := (List.getElem?_eq_some_iff.1 hx).1; simpa using this
  have hx2 : x = f (lo + j) := by
    rw [List.getElem?_map, List.getElem?_range' hj] at hx
    simpa using hx.symm
  subst hx2
  refine ⟨[.bool (f (lo + j))], rfl, rfl, fun i u hi => ?_⟩
  have hi0 : i = 0 := by have := (List.getElem?_eq_some_iff.1 hi).1; simpa using this
  subst hi0
  obtain rfl : Value.bool (f (lo + j)) = u := by simpa using hi
  rw [show Kd.bool.sz = 1 from rfl, show (⟨g, lo, none⟩ : Addr).add (j * 1 + 0) = ⟨g, lo + j, none⟩ from by unfold Addr.add; split <;> simp_all]
  exact rowI_cell h (lo + j) (by omega)
theorem calls_none (w : World) :
    Calls Tryd.prog 105 #[] w fun e w' => e = .returned (.agg (rowI (fun _ => false))) ∧ Below w.heap.size w w' := by
  rw [← rowI_zero]
  go_enter Tryd.func105, Tryd.ntmps105
  have hX := blk_alloc (blk_new w (.cells #[Value.bool false, Value.bool false, Value.bool false, Value.bool false, Value.bool false, Value.bool false, Value.bool false, Value.bool false, Value.bool false, Value.bool false, Value.bool false, Value.bool false, Value.bool false, Value.bool false, Value.bool false, Value.bool false] 131)) (.cells #[Value.bool false, Value.bool false, Value.bool false, Value.bool false, Value.bool false, Value.bool false, Value.bool false, Value.bool false, Value.bool false, Value.bool false, Value.bool false, Value.bool false, Value.bool false, Value.bool false, Value.bool false, Value.bool false] 131)
  have hY := blk_new (w.alloc (.cells #[Value.bool false, Value.bool false, Value.bool false, Value.bool false, Value.bool false, Value.bool false, Value.bool false, Value.bool false, Value.bool false, Value.bool false, Value.bool false, Value.bool false, Value.bool false, Value.bool false, Value.bool false, Value.bool false] 131)) (.cells #[Value.bool false, Value.bool false, Value.bool false, Value.bool false, Value.bool false, Value.bool false, Value.bool false, Value.bool false, Value.bool false, Value.bool false, Value.bool false, Value.bool false, Value.bool false, Value.bool false, Value.bool false, Value.bool false] 131)
  rw [World.size_alloc] at hY
  have HX := Lib.hid hX; have HY := Lib.hid hY
  clear hX hY
  go_wp2_with (first | ((with_reducible refine gate_dst (N := 2) rfl ?_); refine wpList_load_row rfl 131 _ rfl (w.heap.size + 1) rfl 131 _ _ _ HY.out Tryd.underlying131 rfl (by kernel_rfl) ?_) | ((with_reducible refine gate_store (t := 131) (p := 0) rfl ?_); refine wpList_store_row rfl 131 _ _ rfl w.heap.size _ rfl rfl 131 _ HX.out (by kernel_rfl) rfl (by simp [Value.oneCell']) ?_))
  have HX2 := setRow_heap ((w.alloc (.cells #[Value.bool false, Value.bool false, Value.bool false, Value.bool false, Value.bool false, Value.bool false, Value.bool false, Value.bool false, Value.bool false, Value.bool false, Value.bool false, Value.bool false, Value.bool false, Value.bool false, Value.bool false, Value.bool false] 131)).alloc (.cells #[Value.bool false, Value.bool false, Value.bool false, Value.bool false, Value.bool false, Value.bool false, Value.bool false, Value.bool false, Value.bool false, Value.bool false, Value.bool false, Value.bool false, Value.bool false, Value.bool false, Value.bool false, Value.bool false] 131)) w.heap.size _ #[Value.bool false, Value.bool false, Value.bool false, Value.bool false, Value.bool false, Value.bool false, Value.bool false, Value.bool false, Value.bool false, Value.bool false, Value.bool false, Value.bool false, Value.bool false, Value.bool false, Value.bool false, Value.bool false] 131 _ HX.out
  exact bodyPost_ret (results_cell_row rfl _ _ w.heap.size 131 _ _ _ rfl HX2 Tryd.underlying131 rfl (by kernel_rfl)) rfl ⟨rfl, below_setRow (below_alloc (below_alloc (Below.refl w.heap.size w) _) _) (Nat.le_refl _) _⟩
theorem w64 (j : Nat) (h : j < 9223372036854775807) : wrap64 ((j : Int) + 1) = ((j + 1 : Nat) : Int) := by unfold wrap64; omega
theorem IndexB_l0 (l : List Bool) (a : Bool) (hl : l.length < 9223372036854775808) : ∀ (d j : Nat), j + d = l.length →
    ∃ r, Evt (fun k => slices_Index_bool_bool.l0 k l a (l.length : Int) (j : Int)) r ∧ (decide (r ≥ 0) = (l.drop j).contains a)
  | 0, j, hj => by
    refine ⟨-1, Evt.succ ?_, ?_⟩
    · simp only [slices_Index_bool_bool.l0]
      exact Evt.neg (by omega) (Evt.pure _)
    · rw [List.drop_eq_nil_of_le (by omega)]; rfl
  | d + 1, j, hj => by
    have h1 : l.drop j = l[j] :: l.drop (j + 1) := List.drop_eq_getElem_cons (by omega)
    have hg : rdOf false l (j : Int) = l[j] := by simp [rdOf, show j < l.length by omega]
    by_cases h : a = l[j]
    · refine ⟨j, Evt.succ ?_, ?_⟩
      · simp only [slices_Index_bool_bool.l0]
        refine Evt.pos (by omega) (Evt.pos (by omega) (Evt.pos (by omega) ?_))
        rw [hg]; exact Evt.pos (by simpa using h) (Evt.pure _)
      · rw [h]; rw [h1]; rw [List.contains_cons, beq_self_eq_true, Bool.true_or]; exact decide_eq_true (by omega)
    · obtain ⟨r, h2, h3⟩ := IndexB_l0 l a hl d (j + 1) (by omega)
      refine ⟨r, Evt.succ ?_, ?_⟩
      · simp only [slices_Index_bool_bool.l0]
        refine Evt.pos (by omega) (Evt.pos (by omega) (Evt.pos (by omega) ?_))
        rw [w64 j (by omega)]
        rw [hg]
        exact Evt.neg (by simpa using h) h2
      · rw [h1, h3, List.contains_cons]
        have : (a == l[j]) = false := by simpa using h
        rw [this, Bool.false_or]
theorem calls_ContainsB (A : Option Addr) (c : Nat) (l : List Bool) (a : Bool) (w : World) (hr : Kd.C Kd.bool w A l.length l) (hc : l.length ≤ c) :
    Calls Tryd.prog 104 #[.slice A l.length c, .bool a] w fun e w' => e = .returned (.bool (l.contains a)) ∧ Below w.heap.size w w' := by
  have hl : l.length < 9223372036854775808 := by have := hr.2.1; omega
  obtain ⟨r, h1, h2⟩ := IndexB_l0 l a hl l.length 0 (by omega)
  obtain ⟨k, hk⟩ := h1.get
  refine (slices_Contains_bool_bool.calls k A c l a (l.contains a) w hr hc ?_).mono fun e w' h => ⟨h.1, h.2.below⟩
  unfold slices_Contains_bool_bool.f slices_Index_bool_bool.f
  rw [show slices_Index_bool_bool.l0 k l a (l.length : Int) 0 = some r from hk]
  simp only [Option.bind_some]
  rw [h2]
  rfl
set_option maxRecDepth 100000 in
theorem slice_at (g lo hi : Nat) (h1 : lo ≤ hi) (h2 : hi ≤ 16) (h3 : lo < 16) (W : World) : (Instr.sliceAt 131 (.pointer (some ⟨g, 0, none⟩)) (some (.int .i64 (lo : Int))) (some (.int .i64 (hi : Int))) none).run Tryd.prog W = .ok (.slice (some ⟨g, lo, none⟩) (hi - lo) (16 - lo)) W := by
  have hu : Tryd.prog.underlying 131 = some (.array (Tryd.prog.arrayLen 131) (Tryd.prog.elem 131)) := by kernel_rfl
  have hl : Tryd.prog.arrayLen 131 = 16 := by kernel_rfl
  have he : Tryd.prog.elem 131 = 4 := by kernel_rfl
  obtain ⟨i0, hi0⟩ : ∃ i, Tryd.prog.info? 4 = some i := ⟨_, rfl⟩
  have hs : (sizeOf 4).run Tryd.prog W = .ok 1 W := by rw [run_sizeOf W hi0, show Tryd.prog.cellsOf 4 = 1 from by kernel_rfl]
  rw [run_sliceAt_array_lh W 131 ⟨g, 0, none⟩ hu .i64 .i64 (lo : Int) (hi : Int) (by omega) (by omega) (by rw [hl]; omega), he, hs, hl]
  simp only [Result.andThen_ok, slicedAt, Int.toNat_natCast, Nat.mul_one]
  rw [if_neg (by omega)]
  have : (⟨g, 0, none⟩ : Addr).add lo = ⟨g, lo, none⟩ := by unfold Addr.add; split <;> simp_all
  rw [this]
def kin (lo hi : Nat) : List Nat := List.range' lo (hi + 1 - lo)
def kcanB (lo hi : Nat) (f : Nat → Bool) : Bool := (kin lo hi).any f
def kmustB (lo hi : Nat) (f : Nat → Bool) : Bool := (kin lo hi).all f
theorem map_contains_true (l : List Nat) (f : Nat → Bool) : (l.map f).contains true = l.any f := by
  induction l with
  | nil => rfl
  | cons a l ih => rw [List.map_cons, List.contains_cons, ih, List.any_cons]; cases f a <;> simp
theorem map_contains_false (l : List Nat) (f : Nat → Bool) : (!(l.map f).contains false) = l.all f := by
  induction l with
  | nil => rfl
  | cons a l ih => rw [List.map_cons, List.contains_cons, Bool.not_or, ih, List.all_cons]; cases f a <;> simp
set_option maxRecDepth 100000 in
theorem calls_kcan (lo hi : Nat) (f : Nat → Bool) (h1 : lo ≤ hi) (h2 : hi < 16) (w : World) :
    Calls Tryd.prog 131 #[.agg #[.int .i64 lo, .int .i64 hi], .agg (rowI f)] w fun e w' => e = .returned (.bool (kcanB lo hi f)) ∧ Below w.heap.size w w' := by
  have hX := blk_new (w.alloc (.cells #[.int .i64 lo, .int .i64 hi] 136)) (.cells (rowI f) 131)
  rw [World.size_alloc] at hX
  have hC := rowI_C hX lo (hi + 1 - lo) (by omega)
  have hl : ((List.range' lo (hi + 1 - lo)).map f).length = hi + 1 - lo := by simp
  have hct : ((List.range' lo (hi + 1 - lo)).map f).contains true = kcanB lo hi f := map_contains_true (kin lo hi) f
  have hsl : ∀ W, (Instr.sliceAt 131 (.pointer (some ⟨w.heap.size + 1, 0, none⟩)) (some (.int .i64 (lo : Int))) (some (.int .i64 ((hi : Int) + 1))) none).run Tryd.prog W = .ok (.slice (some ⟨w.heap.size + 1, lo, none⟩) (hi + 1 - lo) (16 - lo)) W := fun W => slice_at (w.heap.size + 1) lo (hi + 1) (by omega) (by omega) (by omega) W
  have hB := below_alloc (below_alloc (Below.refl w.heap.size w) (.cells #[.int .i64 lo, .int .i64 hi] 136)) (.cells (rowI f) 131)
  generalize (List.range' lo (hi + 1 - lo)).map f = xs at hC hl hct
  rw [← hl] at hsl
  have HC := Lib.hid hC; have HCT := Lib.hid hct; have HB := Lib.hid hB; have HL := Lib.hid hl
  clear hC hct hB hX hl
  go_enter Tryd.func131, Tryd.ntmps131
  go_wp2_with (go_at_call 104; refine (calls_ContainsB (some ⟨w.heap.size + 1, lo, none⟩) (16 - lo) xs true _ HC.out (by have := HL.out; omega)).mono ?_; rintro e w1 ⟨he, hb⟩; rw [HCT.out] at he; subst he)
  go_ret
  exact ⟨rfl, HB.out.trans (hb.mono (by simp; omega))⟩
set_option maxRecDepth 100000 in
theorem calls_kmust (lo hi : Nat) (f : Nat → Bool) (h1 : lo ≤ hi) (h2 : hi < 16) (w : World) :
    Calls Tryd.prog 133 #[.agg #[.int .i64 lo, .int .i64 hi], .agg (rowI f)] w fun e w' => e = .returned (.bool (kmustB lo hi f)) ∧ Below w.heap.size w w' := by
  have hX := blk_new (w.alloc (.cells #[.int .i64 lo, .int .i64 hi] 136)) (.cells (rowI f) 131)
  rw [World.size_alloc] at hX
  have hC := rowI_C hX lo (hi + 1 - lo) (by omega)
  have hl : ((List.range' lo (hi + 1 - lo)).map f).length = hi + 1 - lo := by simp
  have hct : ((List.range' lo (hi + 1 - lo)).map f).contains false = !kmustB lo hi f := by have h := map_contains_false (kin lo hi) f; unfold kmustB; rw [← h, Bool.not_not]; rfl
  have hsl : ∀ W, (Instr.sliceAt 131 (.pointer (some ⟨w.heap.size + 1, 0, none⟩)) (some (.int .i64 (lo : Int))) (some (.int .i64 ((hi : Int) + 1))) none).run Tryd.prog W = .ok (.slice (some ⟨w.heap.size + 1, lo, none⟩) (hi + 1 - lo) (16 - lo)) W := fun W => slice_at (w.heap.size + 1) lo (hi + 1) (by omega) (by omega) (by omega) W
  have hB := below_alloc (below_alloc (Below.refl w.heap.size w) (.cells #[.int .i64 lo, .int .i64 hi] 136)) (.cells (rowI f) 131)
  generalize (List.range' lo (hi + 1 - lo)).map f = xs at hC hl hct
  rw [← hl] at hsl
  have HC := Lib.hid hC; have HCT := Lib.hid hct; have HB := Lib.hid hB; have HL := Lib.hid hl
  clear hC hct hB hX hl
  go_enter Tryd.func133, Tryd.ntmps133
  go_wp2_with (go_at_call 104; refine (calls_ContainsB (some ⟨w.heap.size + 1, lo, none⟩) (16 - lo) xs false _ HC.out (by have := HL.out; omega)).mono ?_; rintro e w1 ⟨he, hb⟩; rw [HCT.out] at he; subst he)
  go_ret
  exact ⟨by simp, HB.out.trans (hb.mono (by simp; omega))⟩
def jAt (x : S50) (a : Nat) (turned : Bool) (n : Int) : Nat := ((a : Int) + (if turned then x.f0 - 1 - n else n)).toNat
def jsetK (x : S50) (a : Nat) (turned : Bool) (js : List Int) (i : Nat) : Bool := js.any fun n => decide (jAt x a turned n = i)
def jset (x : S50) (a : Nat) (turned : Bool) : Nat → Bool := jsetK x a turned x.f1
theorem jsetK_app (x : S50) (a : Nat) (turned : Bool) (js : List Int) (n : Int) (i : Nat) : jsetK x a turned (js ++ [n]) i = if i = jAt x a turned n then true else jsetK x a turned js i := by
  unfold jsetK
  rw [List.any_append]
  by_cases e : i = jAt x a turned n
  · subst e; simp
  · have : ¬ jAt x a turned n = i := fun h => e h.symm
    simp [e, this]
structure Fits (x : S50) (a : Nat) : Prop where
  one : 1 ≤ x.f0
  room : (a : Int) + x.f0 ≤ 16
  few : x.f1.length ≤ 3
  joints : ∀ n ∈ x.f1, 0 ≤ n ∧ n < x.f0
theorem Fits.at {x : S50} {a : Nat} (h : Fits x a) (turned : Bool) {n : Int} (hn : n ∈ x.f1) : jAt x a turned n < 16 := by
  have h1 := h.joints n hn
  have h2 := h.room
  unfold jAt
  split <;> omega
def bookV (PA : Option Addr) (pn pc : Nat) (QA : Option Addr) (qn qc m : Nat) : Array Value := #[.slice PA pn pc, .slice QA qn qc, .map (some m)]
theorem at_shape {w : World} {A : Option Addr} {n : Nat} {xs : List S50} (h : Kd.C k50 w A n xs) (i : Nat) (h1 : i < n) : ∃ ad A1 c1, A = some ad ∧ w.cell? (ad.add (i * 3)) = some (.int .i64 (xs.getD i z50).f0) ∧ w.cell? ⟨(ad.add (i * 3)).block, (ad.add (i * 3)).off + 1, none⟩ = some (.slice A1 (xs.getD i z50).f1.length c1) ∧ w.cell? ⟨(ad.add (i * 3)).block, (ad.add (i * 3)).off + 2, none⟩ = some (.bool (xs.getD i z50).f2) ∧ (xs.getD i z50).f1.length ≤ c1 ∧ (Kd.int .i64).C w A1 (xs.getD i z50).f1.length (xs.getD i z50).f1 := by
  have := at_T50 h (i : Int) (by omega) (by omega)
  simpa [rd_T50] using this
theorem at_wood {w : World} {A : Option Addr} {n : Nat} {xs : List S48} (h : Kd.C k48 w A n xs) (i : Nat) (h1 : i < n) : ∃ ad A1 c1, A = some ad ∧ w.cell? (ad.add (i * 2)) = some (.int .i64 (xs.getD i z48).f0) ∧ w.cell? ⟨(ad.add (i * 2)).block, (ad.add (i * 2)).off + 1, none⟩ = some (.slice A1 (xs.getD i z48).f1.length c1) ∧ (xs.getD i z48).f1.length ≤ c1 ∧ k60.C w A1 (xs.getD i z48).f1.length (xs.getD i z48).f1 := by
  have := at_T48 h (i : Int) (by omega) (by omega)
  simpa [rd_T48] using this
theorem at_span {w : World} {A : Option Addr} {n : Nat} {xs : List S60} (h : Kd.C k60 w A n xs) (i : Nat) (h1 : i < n) : ∃ ad, A = some ad ∧ w.cell? (ad.add (i * 2)) = some (.int .i64 (xs.getD i z60).f0) ∧ w.cell? ⟨(ad.add (i * 2)).block, (ad.add (i * 2)).off + 1, none⟩ = some (.int .i64 (xs.getD i z60).f1) := by
  have := at_T60 h (i : Int) (by omega) (by omega)
  simpa [rd_T60] using this
set_option maxRecDepth 100000 in
set_option maxHeartbeats 1000000 in
theorem calls_joints (PA : Option Addr) (pn pc : Nat) (QA : Option Addr) (qc m : Nat) (Q : List S50) (i p a : Nat) (turned : Bool) (hp : p < Q.length) (hx : Fits (Q.getD p z50) a) (w : World) (hQ : Kd.C k50 w QA Q.length Q) :
    Calls Tryd.prog 111 #[.agg (bookV PA pn pc QA Q.length qc m), .agg #[.int .i64 i, .int .i64 p, .int .i64 a], .bool turned] w fun e w' =>
      e = .returned (.agg (rowI (jset (Q.getD p z50) a turned))) ∧ Below w.heap.size w w' := by
  obtain ⟨ad, A1, c1, rfl, e0, e1, e2, hl1, hC1⟩ := at_shape hQ p hp
  obtain ⟨x, hxe⟩ : ∃ x, Q.getD p z50 = x := ⟨_, rfl⟩
  rw [hxe] at e0 e1 e2 hl1 hC1 hx ⊢
  have HFX := Lib.hid hx; have HC1 := Lib.hid hC1
  clear hxe hQ hx hC1
  have h3 := new3 w (.cells #[.slice PA pn pc, .slice (some ad) Q.length qc, .map (some m)] 84) (.cells #[.int .i64 i, .int .i64 p, .int .i64 a] 87) (.cells #[Value.bool false, Value.bool false, Value.bool false, Value.bool false, Value.bool false, Value.bool false, Value.bool false, Value.bool false, Value.bool false, Value.bool false, Value.bool false, Value.bool false, Value.bool false, Value.bool false, Value.bool false, Value.bool false] 131)
  go_enter Tryd.func111, Tryd.ntmps111
  unfold bookV
  go_wp2_with (first | (go_at_call 105; refine (calls_none _).mono ?_; rintro e w1 ⟨rfl, hb1⟩; obtain ⟨n0, n1, n2, n3, n4⟩ := h3; have hs1 := hb1.size; rw [n4] at hs1; have HX := Lib.hid (below_far n0 hb1); have HY := Lib.hid (below_far n1 hb1); have HZ := Lib.hid (below_far n2 hb1); have HB := Lib.hid (n3.trans (hb1.mono (by rw [n4]; omega))); clear n0 n1 n2 n3 n4 hb1; have HN := Lib.hid (blk_new w1 (.cells #[Value.bool false, Value.bool false, Value.bool false, Value.bool false, Value.bool false, Value.bool false, Value.bool false, Value.bool false, Value.bool false, Value.bool false, Value.bool false, Value.bool false, Value.bool false, Value.bool false, Value.bool false, Value.bool false] 131))) | ((with_reducible refine gate_store (t := 131) (p := 7) rfl ?_); refine wpList_store_row rfl 131 _ _ rfl w1.heap.size _ rfl rfl 131 _ HN.out (by kernel_rfl) rfl (rowI_one _) ?_; have HN2 := Lib.hid (setRow_heap _ w1.heap.size _ (rowI fun _ => false) 131 _ HN.out); have HX2 := Lib.hid ((setRow_other (w1.alloc (.cells #[Value.bool false, Value.bool false, Value.bool false, Value.bool false, Value.bool false, Value.bool false, Value.bool false, Value.bool false, Value.bool false, Value.bool false, Value.bool false, Value.bool false, Value.bool false, Value.bool false, Value.bool false, Value.bool false] 131)) w1.heap.size w.heap.size (rowI fun _ => false) (by omega)).trans (blk_alloc HX.out _)); have HY2 := Lib.hid ((setRow_other (w1.alloc (.cells #[Value.bool false, Value.bool false, Value.bool false, Value.bool false, Value.bool false, Value.bool false, Value.bool false, Value.bool false, Value.bool false, Value.bool false, Value.bool false, Value.bool false, Value.bool false, Value.bool false, Value.bool false, Value.bool false] 131)) w1.heap.size (w.heap.size + 1) (rowI fun _ => false) (by omega)).trans (blk_alloc HY.out _)); have HZ2 := Lib.hid ((setRow_other (w1.alloc (.cells #[Value.bool false, Value.bool false, Value.bool false, Value.bool false, Value.bool false, Value.bool false, Value.bool false, Value.bool false, Value.bool false, Value.bool false, Value.bool false, Value.bool false, Value.bool false, Value.bool false, Value.bool false, Value.bool false] 131)) w1.heap.size (w.heap.size + 1 + 1) (rowI fun _ => false) (by omega)).trans (blk_alloc HZ.out _)); have HB2 := Lib.hid (below_setRow (g := w1.heap.size) (HB.out.alloc (by omega) (.cells #[Value.bool false, Value.bool false, Value.bool false, Value.bool false, Value.bool false, Value.bool false, Value.bool false, Value.bool false, Value.bool false, Value.bool false, Value.bool false, Value.bool false, Value.bool false, Value.bool false, Value.bool false, Value.bool false] 131)) (by omega) (rowI fun _ => false)); have hs2 : ((w1.alloc (.cells #[Value.bool false, Value.bool false, Value.bool false, Value.bool false, Value.bool false, Value.bool false, Value.bool false, Value.bool false, Value.bool false, Value.bool false, Value.bool false, Value.bool false, Value.bool false, Value.bool false, Value.bool false, Value.bool false] 131)).setRow w1.heap.size (rowI fun _ => false)).heap.size = w1.heap.size + 1 := (by rw [setRow_size, World.size_alloc]); clear HX HY HZ HB; generalize (w1.alloc (.cells #[Value.bool false, Value.bool false, Value.bool false, Value.bool false, Value.bool false, Value.bool false, Value.bool false, Value.bool false, Value.bool false, Value.bool false, Value.bool false, Value.bool false, Value.bool false, Value.bool false, Value.bool false, Value.bool false] 131)).setRow w1.heap.size (rowI fun _ => false) = W at HN2 HX2 HY2 HZ2 HB2 hs2 ⊢; have d0 : W.cell? ⟨w.heap.size, 1, none⟩ = some (.slice (some ad) Q.length qc) := blk_cell HX2.out 1; have d1 : W.cell? ⟨w.heap.size + 1, 1, none⟩ = some (.int .i64 p) := blk_cell HY2.out 1; have f0 := pw_cell_below HB2.out e0; have f1 := pw_cell_below HB2.out e1; have f2 := pw_cell_below HB2.out e2))
  obtain ⟨n0, n1, n2⟩ := new1 W (.cells #[.int .i64 x.f0, .slice A1 x.f1.length c1, .bool x.f2] 50)
  have HN := Lib.hid (below_far HN2.out n1); have HY := Lib.hid (below_far HY2.out n1); have HZ := Lib.hid (below_far HZ2.out n1); have HB := Lib.hid (HB2.out.trans (n1.mono (below_size HB2.out)))
  rw [hs2] at n0; have HS := Lib.hid n0
  have hWs : w.heap.size + 1 + 1 < w1.heap.size := by omega
  clear HN2 HX2 HY2 HZ2 HB2 hs2 n0 n1 n2 d0 d1 f0 f1 f2 e0 e1 e2
  generalize W.alloc (.cells #[.int .i64 x.f0, .slice A1 x.f1.length c1, .bool x.f2] 50) = W0 at HN HY HZ HB HS ⊢
  go_loopw [22] (fun v wr => ∃ k : Nat, k ≤ x.f1.length ∧ v = .int .i64 k ∧ Hid (wr.heap[w1.heap.size]? = some (.cells (rowI (jsetK x a turned (x.f1.take k))) 131 (0, 0))) ∧ Hid (wr.heap[w1.heap.size + 1]? = some (.cells #[.int .i64 x.f0, .slice A1 x.f1.length c1, .bool x.f2] 50 (0, 0))) ∧ Hid (wr.heap[w.heap.size + 1]? = some (.cells #[.int .i64 i, .int .i64 p, .int .i64 a] 87 (0, 0))) ∧ Hid (wr.heap[w.heap.size + 1 + 1]? = some (.cells #[Value.bool false, Value.bool false, Value.bool false, Value.bool false, Value.bool false, Value.bool false, Value.bool false, Value.bool false, Value.bool false, Value.bool false, Value.bool false, Value.bool false, Value.bool false, Value.bool false, Value.bool false, Value.bool false] 131 (0, 0))) ∧ Hid (Below w.heap.size w wr)) (fun v _ => x.f1.length - (intOf v).toNat)
  case atStart => exact ⟨0, Nat.zero_le _, rfl, HN, HS, HY, HZ, HB⟩
  case round =>
    clear HN HY HZ HB HS
    obtain ⟨k, hk, rfl, HN, HS, HY, HZ, HB⟩ := hrel
    by_cases hlt : k < x.f1.length
    · obtain ⟨ad1, rfl, hcell⟩ := at_nat (Kd.C_below HC1.out HB.out) k hlt
      have hmem : rd x.f1 k ∈ x.f1 := by have : rd x.f1 k = x.f1[k] := by simp [rd, hlt]
                                         rw [this]; exact List.getElem_mem _
      have hq16 := HFX.out.at turned hmem
      obtain ⟨hj1, hj2⟩ := HFX.out.joints _ hmem
      have hroom := HFX.out.room
      have hfew := HFX.out.few
      have htk : x.f1.take (k + 1) = x.f1.take k ++ [rd x.f1 k] := by rw [List.take_add_one, show x.f1[k]? = some (rd x.f1 k) from by simp [rd, hlt]]; rfl
      obtain ⟨q, hq⟩ : ∃ q, jAt x a turned (rd x.f1 k) = q := ⟨_, rfl⟩
      have HNX := Lib.hid (show rowI (jsetK x a turned (x.f1.take (k + 1))) = (rowI (jsetK x a turned (x.f1.take k))).setIfInBounds q (.bool true) from by
        rw [rowI_set _ _ (by omega)]
        refine rowI_congr fun i hi => ?_
        rw [htk, jsetK_app, hq])
      obtain ⟨n, hn⟩ : ∃ n, rd x.f1 k = n := ⟨_, rfl⟩
      obtain ⟨L, hL⟩ : ∃ L, x.f0 = L := ⟨_, rfl⟩
      have hq2 : (a : Int) + (if turned then x.f0 - 1 - n else n) = (q : Int) := by
        rw [← hq, ← hn]; unfold jAt; split <;> omega
      have s0 : wr.cell? ⟨w1.heap.size + 1, 0, none⟩ = some (.int .i64 x.f0) := blk_cell HS.out 0
      have s1 : wr.cell? ⟨w.heap.size + 1, 2, none⟩ = some (.int .i64 a) := blk_cell HY.out 2
      have s2 : wr.cell? ⟨w1.heap.size, q, none⟩ = some (.bool (jsetK x a turned (x.f1.take k) q)) := rowI_cell HN.out q (by omega)
      have s3 := blk_frozen HN.out q
      rw [hn] at hcell hj1 hj2
      rw [hL] at hj2 hroom hq2 s0
      have hq3 : (q : Int) < 16 := by omega
      have hL1 := HFX.out.one
      rw [hL] at hL1
      have HQ := Lib.hid hq; have HHN := Lib.hid hn; have HHL := Lib.hid hL; have HTK := Lib.hid htk
      clear hq hn hL htk hmem
      cases turned with
      | true =>
        simp only [if_true] at hq2
        go_wp2_with fail
        go_roundw
        case rel =>
          refine ⟨k + 1, by omega, by go_num, ?_, blk_far HS.out (by show w1.heap.size + 1 ≠ w1.heap.size; omega) _, blk_far HY.out (by show w.heap.size + 1 ≠ w1.heap.size; omega) _, blk_far HZ.out (by show w.heap.size + 1 + 1 ≠ w1.heap.size; omega) _, HB.out.setCell (by show w.heap.size ≤ w1.heap.size; omega) _⟩
          rw [HNX.out]
          exact blk_set HN.out q (.bool true)
        case measure => simp [intOf]; omega
      | false =>
        simp only [Bool.false_eq_true, if_false] at hq2
        go_wp2_with fail
        go_roundw
        case rel =>
          refine ⟨k + 1, by omega, by go_num, ?_, blk_far HS.out (by show w1.heap.size + 1 ≠ w1.heap.size; omega) _, blk_far HY.out (by show w.heap.size + 1 ≠ w1.heap.size; omega) _, blk_far HZ.out (by show w.heap.size + 1 + 1 ≠ w1.heap.size; omega) _, HB.out.setCell (by show w.heap.size ≤ w1.heap.size; omega) _⟩
          rw [HNX.out]
          exact blk_set HN.out q (.bool true)
        case measure => simp [intOf]; omega
    · obtain rfl : k = x.f1.length := by omega
      have hNl := HN.out
      rw [List.take_length] at hNl
      have HNl := Lib.hid hNl; clear hNl HN
      go_wp2_with (first | ((with_reducible refine gate_dst (N := 38) rfl ?_); refine wpList_load_row rfl 131 _ rfl w1.heap.size rfl 131 _ _ _ HNl.out Tryd.underlying131 rfl (by kernel_rfl) ?_) | ((with_reducible refine gate_store (t := 131) (p := 6) rfl ?_); refine wpList_store_row rfl 131 _ _ rfl (w.heap.size + 1 + 1) _ rfl rfl 131 _ HZ.out (by kernel_rfl) rfl (rowI_one _) ?_))
      have HZ2 := setRow_heap wr (w.heap.size + 1 + 1) _ (rowI (jsetK x a turned x.f1)) 131 _ HZ.out
      exact bodyPost_ret (results_cell_row rfl _ _ (w.heap.size + 1 + 1) 131 _ _ _ rfl HZ2 Tryd.underlying131 rfl (by kernel_rfl)) rfl ⟨rfl, below_setRow HB.out (by omega) _⟩
end Go.Proofs.YtekjlpldooihhaaDoorP
