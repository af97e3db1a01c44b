/- Printed by a program (prx.py). -/
import Derived.Test.YtdllacjkacmghaaDoorDTx0
namespace Go.Proofs.YtdllacjkacmghaaDoor.DT
open Go.Proofs.YtdllacjkacmghaaDoorD Go.Proofs.YtdllacjkacmghaaDoorK
open Go.RowKit Go.Proofs.YtdllacjkacmghaaDoorW.PrintWords Go.Proofs.YtdllacjkacmghaaDoorW.PrintLast Go.Proofs.YtdllacjkacmghaaDoorW.PrintMore
attribute [local go_sem] max2_int min2_int max_two min_two max_three min_three max_four min_four   -- for this text's walks alone
set_option linter.unusedVariables false
set_option linter.unusedSimpArgs false

/-! ### skewbaldref00_In: function 36 -/
def skewbaldref00_In.f (a0 : Int) (a1 : Int) (a2 : Int) : Option (Bool) := if a1 ≤ a0 then (some (decide (a0 ≤ a2))) else (some false)
set_option maxHeartbeats 8000000 in
set_option maxRecDepth 100000 in
theorem skewbaldref00_In.calls (a0 : Int) (a1 : Int) (a2 : Int) (r : Bool) (w : World) (h : skewbaldref00_In.f a0 a1 a2 = some r) :
  Calls Tryd.prog 36 #[.int .i64 a0, .int .i64 a1, .int .i64 a2] w fun e w' => e = .returned (.bool r) ∧ Drawn0 w w' := by
 have H : (if a1 ≤ a0 then (some (decide (a0 ≤ a2))) else (some false)) = some r := h
 clear h
 by_cases c4 : a1 ≤ a0
 ·rw [if_pos c4] at H
  have c4b0 : decide (a1 ≤ a0) = true := decide_eq_true c4
  clear c4
  obtain rfl := Option.some.inj H
  go_enter Tryd.func36, Tryd.ntmps36
  go_wp2
  go_ret
  exact ⟨by first | rfl | (simp; done) | (simp [*]; done), by repeat (first | exact Drawn0.refl _ | apply Drawn0.step)⟩
 ·rw [if_neg c4] at H
  have c4b0 : decide (a1 ≤ a0) = false := decide_eq_false c4
  clear c4
  obtain rfl := Option.some.inj H
  go_enter Tryd.func36, Tryd.ntmps36
  go_wp2
  go_ret
  exact ⟨by first | rfl | (simp; done) | (simp [*]; done), by repeat (first | exact Drawn0.refl _ | apply Drawn0.step)⟩

/-! ### skewbaldref07_Check: function 21 -/
mutual
def skewbaldref07_Check.j0 : Nat → Bool → Int → List (List Int) → Option (Int)
 | 0, _, _, _ => none
 | k + 1, x3, x102000, x102001 => skewbaldref07_Check.l0 k x3 0 x102000 x102001
def skewbaldref07_Check.l0 : Nat → Bool → Int → Int → List (List Int) → Option (Int)
 | 0, _, _, _, _ => none
 | k + 1, x3, x4, x102000, x102001 => if x3 = true then (skewbaldref07_Check.j2 k x3 x4 (decide (x4 < (x102001.length : Int))) x102000 x102001) else (skewbaldref07_Check.j2 k x3 x4 false x102000 x102001)
def skewbaldref07_Check.j2 : Nat → Bool → Int → Bool → Int → List (List Int) → Option (Int)
 | 0, _, _, _, _, _ => none
 | k + 1, x3, x4, x22, x102000, x102001 => if x22 = true then (if 0 ≤ x4 then (if x4 < (x102001.length : Int) then (skewbaldref07_Check.l1 k (((rd_L1 x102001 x4).length : Int) == x102000) x4 0 x102000 x102001) else (none)) else (none)) else (if x3 = true then (some 0) else (some 70))
def skewbaldref07_Check.l1 : Nat → Bool → Int → Int → Int → List (List Int) → Option (Int)
 | 0, _, _, _, _, _ => none
 | k + 1, x3, x4, x5, x102000, x102001 => if x3 = true then (if x5 < x102000 then (if 0 ≤ x4 then (if x4 < (x102001.length : Int) then (if 0 ≤ x5 then (if x5 < ((rd_L1 x102001 x4).length : Int) then ((skewbaldref00_In.f (rd (rd_L1 x102001 x4) x5) 1 15).bind fun t107 => (skewbaldref07_Check.l1 k t107 x4 (wrap64 (x5 + 1)) x102000 x102001)) else (none)) else (none)) else (none)) else (none)) else (skewbaldref07_Check.l0 k x3 (wrap64 (x4 + 1)) x102000 x102001)) else (skewbaldref07_Check.l0 k x3 (wrap64 (x4 + 1)) x102000 x102001)
end
/-! ### skewbaldref07_can: function 84 -/
def skewbaldref07_can.l0 : Nat → List Int → List Int → Int → Bool → Int → Option (Bool)
 | 0, _, _, _, _, _ => none
 | k + 1, x0, x1, x2, x7, x8 => if x8 < (x0.length : Int) then (if x7 = true then (if (x0.length : Int) = 0 then (none) else (if 0 ≤ (Int.tmod (wrap64 (x8 + x2)) (x0.length : Int)) then (if (Int.tmod (wrap64 (x8 + x2)) (x0.length : Int)) < (x0.length : Int) then (if 0 ≤ x8 then (if x8 < (x1.length : Int) then (skewbaldref07_can.l0 k x0 x1 x2 ((Go.bits .and .i64 (rd x0 (Int.tmod (wrap64 (x8 + x2)) (x0.length : Int))) (rd x1 x8)) != 0) (wrap64 (x8 + 1))) else (none)) else (none)) else (none)) else (none))) else (skewbaldref07_can.l0 k x0 x1 x2 false (wrap64 (x8 + 1)))) else (some x7)
def skewbaldref07_can.f (k : Nat) (l0 : List Int) (l1 : List Int) (a2 : Int) : Option (Bool) := skewbaldref07_can.l0 k l0 l1 a2 true 0
/-! ### skewbaldref07_turns: function 62 -/
def skewbaldref07_turns.l0 : Nat → List Int → List Int → List Int → Int → Option (List Int)
 | 0, _, _, _, _ => none
 | k + 1, x0, x1, x5, x6 => if x6 < (x0.length : Int) then ((skewbaldref07_can.f k x0 x1 x6).bind fun t118 => (if t118 = true then (if x5.length < 17592186044416 then (skewbaldref07_turns.l0 k x0 x1 (x5 ++ [x6]) (wrap64 (x6 + 1))) else (none)) else (skewbaldref07_turns.l0 k x0 x1 x5 (wrap64 (x6 + 1))))) else (some x5)
def skewbaldref07_turns.f (k : Nat) (l0 : List Int) (l1 : List Int) : Option (List Int) := skewbaldref07_turns.l0 k l0 l1 (([] : List Int)) 0
end Go.Proofs.YtdllacjkacmghaaDoor.DT
