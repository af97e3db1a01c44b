/- The contracts of package dapple, in the shape of the printed ones: Whose, New, Drop, Look. -/
import Derived.Test.YtdllacjkacmghaaDoorGi
import Derived.Test.YtdllacjkacmghaaDoorGt
namespace Go.Proofs.YtdllacjkacmghaaDoorD
open Go.RowKit Go.Proofs.YtdllacjkacmghaaDoorW.PrintWords Go.Proofs.YtdllacjkacmghaaDoorW.PrintLast Go.Proofs.YtdllacjkacmghaaDoorW.PrintMore Go.Proofs.YtdllacjkacmghaaDoorH
set_option linter.unusedVariables false

def dapple_Whose.f (a0_0 : Int) (l0_1 : List (List Int)) (l1 : List Int) : Option (List Int × Int) := some (whoseD a0_0 l0_1 l1)
theorem dapple_Whose.calls (a0_0 : Int) (A0_1 : Option Addr) (c0_1 : Nat) (l0_1 : List (List Int)) (A1 : Option Addr) (c1 : Nat) (l1 : List Int) (r1 : List Int) (r2 : Int) (w : World) (hr0_1 : Kd.C (Kd.slice 3 (Kd.int .i64)) w A0_1 l0_1.length l0_1) (hc0_1 : l0_1.length ≤ c0_1) (hr1 : Kd.C (Kd.int .i64) w A1 l1.length l1) (hc1 : l1.length ≤ c1) (hG : Glob w) (h : dapple_Whose.f a0_0 l0_1 l1 = some (r1, r2)) :
    Calls Tryd.prog 25 #[.agg #[.int .i64 a0_0, .slice A0_1 l0_1.length c0_1], .slice A1 l1.length c1] w fun e w' => ∃ v0_ : Value, e = .returned (.tuple #[v0_, .int .i64 r2]) ∧ Kd.V (Kd.int .i64) 3 w' w.heap.size (fun k_ => (w.heap.size ≤ k_)) v0_ r1 ∧ Below w.heap.size w w' := by
  have h' := Option.some.inj h
  obtain rfl : (whoseD a0_0 l0_1 l1).1 = r1 := by rw [h']
  obtain rfl : (whoseD a0_0 l0_1 l1).2 = r2 := by rw [h']
  exact calls_Whose a0_0 A0_1 c0_1 l0_1 A1 c1 l1 w hr0_1 hc0_1 hr1 hc1 hG

def dapple_New.f (a0_0 : Int) (l0_1 : List (List Int)) : Option (List Int × Int) := some (newD a0_0 l0_1)
theorem dapple_New.calls (a0_0 : Int) (A0_1 : Option Addr) (c0_1 : Nat) (l0_1 : List (List Int)) (r1 : List Int) (r2 : Int) (w : World) (hr0_1 : Kd.C (Kd.slice 3 (Kd.int .i64)) w A0_1 l0_1.length l0_1) (hc0_1 : l0_1.length ≤ c0_1) (hG : Glob w) (h : dapple_New.f a0_0 l0_1 = some (r1, r2)) :
    Calls Tryd.prog 27 #[.agg #[.int .i64 a0_0, .slice A0_1 l0_1.length c0_1]] w fun e w' => ∃ v0_ : Value, e = .returned (.tuple #[v0_, .int .i64 r2]) ∧ Kd.V (Kd.int .i64) 3 w' w.heap.size (fun k_ => (w.heap.size ≤ k_)) v0_ r1 ∧ Below w.heap.size w w' := by
  have h' := Option.some.inj h
  obtain rfl : (newD a0_0 l0_1).1 = r1 := by rw [h']
  obtain rfl : (newD a0_0 l0_1).2 = r2 := by rw [h']
  exact calls_New a0_0 A0_1 c0_1 l0_1 w hr0_1 hc0_1 hG
def dapple_Drop.f (a0_0 : Int) (l0_1 : List (List Int)) : Option (List Int × Int) := some (dropD a0_0 l0_1)
theorem dapple_Drop.calls (a0_0 : Int) (A0_1 : Option Addr) (c0_1 : Nat) (l0_1 : List (List Int)) (r1 : List Int) (r2 : Int) (w : World) (hr0_1 : Kd.C (Kd.slice 3 (Kd.int .i64)) w A0_1 l0_1.length l0_1) (hc0_1 : l0_1.length ≤ c0_1) (hG : Glob w) (h : dapple_Drop.f a0_0 l0_1 = some (r1, r2)) :
    Calls Tryd.prog 42 #[.agg #[.int .i64 a0_0, .slice A0_1 l0_1.length c0_1]] w fun e w' => ∃ v0_ : Value, e = .returned (.tuple #[v0_, .int .i64 r2]) ∧ Kd.V (Kd.int .i64) 3 w' w.heap.size (fun k_ => (w.heap.size ≤ k_)) v0_ r1 ∧ Below w.heap.size w w' := by
  have h' := Option.some.inj h
  obtain rfl : (dropD a0_0 l0_1).1 = r1 := by rw [h']
  obtain rfl : (dropD a0_0 l0_1).2 = r2 := by rw [h']
  exact calls_Drop a0_0 A0_1 c0_1 l0_1 w hr0_1 hc0_1 hG
def dapple_Look.f (a0_0 : Int) (l0_1 : List (List Int)) : Option (Int × Int × Int) := some (lookD a0_0 l0_1)
theorem dapple_Look.calls (a0_0 : Int) (A0_1 : Option Addr) (c0_1 : Nat) (l0_1 : List (List Int)) (r1 r2 r3 : Int) (w : World) (hr0_1 : Kd.C (Kd.slice 3 (Kd.int .i64)) w A0_1 l0_1.length l0_1) (hc0_1 : l0_1.length ≤ c0_1) (hG : Glob w) (h : dapple_Look.f a0_0 l0_1 = some (r1, r2, r3)) :
    Calls Tryd.prog 47 #[.agg #[.int .i64 a0_0, .slice A0_1 l0_1.length c0_1]] w fun e w' => e = .returned (.tuple #[.int .i64 r1, .int .i64 r2, .int .i64 r3]) ∧ Below w.heap.size w w' := by
  have h' := Option.some.inj h
  obtain rfl : (lookD a0_0 l0_1).1 = r1 := by rw [h']
  obtain rfl : (lookD a0_0 l0_1).2.1 = r2 := by rw [h']
  obtain rfl : (lookD a0_0 l0_1).2.2 = r3 := by rw [h']
  exact calls_Look a0_0 A0_1 c0_1 l0_1 w hr0_1 hc0_1 hG
end Go.Proofs.YtdllacjkacmghaaDoorD
