/- The contracts of package dapple, in the shape of the printed ones: Check, Turns, Same, Clash, Sure. -/
import Derived.Test.YtdllacjkacmghaaDoorGe
namespace Go.Proofs.YtdllacjkacmghaaDoorD
open Go.RowKit Go.Proofs.YtdllacjkacmghaaDoorW.PrintWords Go.Proofs.YtdllacjkacmghaaDoorW.PrintLast Go.Proofs.YtdllacjkacmghaaDoorW.PrintMore Go.Proofs.YtdllacjkacmghaaDoorH
set_option linter.unusedVariables false

def dapple_Check.f (a0_0 : Int) (l0_1 : List (List Int)) : Option Int := some (checkD a0_0 l0_1)
theorem dapple_Check.calls (a0_0 : Int) (A0_1 : Option Addr) (c0_1 : Nat) (l0_1 : List (List Int)) (r : Int) (w : World) (hr0_1 : Kd.C (Kd.slice 3 (Kd.int .i64)) w A0_1 l0_1.length l0_1) (hc0_1 : l0_1.length ≤ c0_1) (h : dapple_Check.f a0_0 l0_1 = some r) :
    Calls Tryd.prog 20 #[.agg #[.int .i64 a0_0, .slice A0_1 l0_1.length c0_1]] w fun e w' => e = .returned (.int .i64 r) ∧ Below w.heap.size w w' := by
  obtain rfl := Option.some.inj h
  exact calls_Check a0_0 A0_1 c0_1 l0_1 w hr0_1 hc0_1

def dapple_Turns.f (a0_0 : Int) (l0_1 : List (List Int)) (a1 a2 : Int) : Option (List Int × Int) := some (turnsD a0_0 l0_1 a1 a2)
theorem dapple_Turns.calls (a0_0 : Int) (A0_1 : Option Addr) (c0_1 : Nat) (l0_1 : List (List Int)) (a1 a2 : Int) (r1 : List Int) (r2 : Int) (w : World) (hr0_1 : Kd.C (Kd.slice 3 (Kd.int .i64)) w A0_1 l0_1.length l0_1) (hc0_1 : l0_1.length ≤ c0_1) (hG : Glob w) (h : dapple_Turns.f a0_0 l0_1 a1 a2 = some (r1, r2)) :
    Calls Tryd.prog 17 #[.agg #[.int .i64 a0_0, .slice A0_1 l0_1.length c0_1], .int .i64 a1, .int .i64 a2] w fun e w' => ∃ v0_ : Value, e = .returned (.tuple #[v0_, .int .i64 r2]) ∧ Kd.V (Kd.int .i64) 3 w' w.heap.size (fun k_ => (w.heap.size ≤ k_)) v0_ r1 ∧ Below w.heap.size w w' := by
  have h' := Option.some.inj h
  obtain rfl : (turnsD a0_0 l0_1 a1 a2).1 = r1 := by rw [h']
  obtain rfl : (turnsD a0_0 l0_1 a1 a2).2 = r2 := by rw [h']
  exact calls_Turns a0_0 A0_1 c0_1 l0_1 a1 a2 w hr0_1 hc0_1 hG

def dapple_Same.f (a0_0 : Int) (l0_1 : List (List Int)) (a1 a2 : Int) : Option (Int × Int) := some (sameD a0_0 l0_1 a1 a2)
theorem dapple_Same.calls (a0_0 : Int) (A0_1 : Option Addr) (c0_1 : Nat) (l0_1 : List (List Int)) (a1 a2 : Int) (r1 : Int) (r2 : Int) (w : World) (hr0_1 : Kd.C (Kd.slice 3 (Kd.int .i64)) w A0_1 l0_1.length l0_1) (hc0_1 : l0_1.length ≤ c0_1) (hG : Glob w) (h : dapple_Same.f a0_0 l0_1 a1 a2 = some (r1, r2)) :
    Calls Tryd.prog 22 #[.agg #[.int .i64 a0_0, .slice A0_1 l0_1.length c0_1], .int .i64 a1, .int .i64 a2] w fun e w' => e = .returned (.tuple #[.int .i64 r1, .int .i64 r2]) ∧ Below w.heap.size w w' := by
  have h' := Option.some.inj h
  obtain rfl : (sameD a0_0 l0_1 a1 a2).1 = r1 := by rw [h']
  obtain rfl : (sameD a0_0 l0_1 a1 a2).2 = r2 := by rw [h']
  exact calls_Same a0_0 A0_1 c0_1 l0_1 a1 a2 w hr0_1 hc0_1 hG

def dapple_Clash.f (a0_0 : Int) (l0_1 : List (List Int)) : Option (Int × Int × Int) := some (firstD a0_0 l0_1 0)
theorem dapple_Clash.calls (a0_0 : Int) (A0_1 : Option Addr) (c0_1 : Nat) (l0_1 : List (List Int)) (r1 r2 r3 : Int) (w : World) (hr0_1 : Kd.C (Kd.slice 3 (Kd.int .i64)) w A0_1 l0_1.length l0_1) (hc0_1 : l0_1.length ≤ c0_1) (hG : Glob w) (h : dapple_Clash.f a0_0 l0_1 = some (r1, r2, r3)) :
    Calls Tryd.prog 44 #[.agg #[.int .i64 a0_0, .slice A0_1 l0_1.length c0_1]] w fun e w' => e = .returned (.tuple #[.int .i64 r1, .int .i64 r2, .int .i64 r3]) ∧ Below w.heap.size w w' := by
  have h' := Option.some.inj h
  obtain rfl : (firstD a0_0 l0_1 0).1 = r1 := by rw [h']
  obtain rfl : (firstD a0_0 l0_1 0).2.1 = r2 := by rw [h']
  obtain rfl : (firstD a0_0 l0_1 0).2.2 = r3 := by rw [h']
  exact calls_Clash a0_0 A0_1 c0_1 l0_1 w hr0_1 hc0_1 hG
end Go.Proofs.YtdllacjkacmghaaDoorD
