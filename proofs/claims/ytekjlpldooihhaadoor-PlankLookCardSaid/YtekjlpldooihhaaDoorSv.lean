/- Printed by a program (prx.py). -/
import Derived.Test.YtekjlpldooihhaaDoorPu
import Derived.Test.YtekjlpldooihhaaDoorProg
import Derived.Below
import Derived.Deep.Draws
import Derived.Deep.AppendLies
import Derived.Maps.AppendAt
import Derived.OwnWalk
import Derived.Laws.BytesArg
import Derived.Laws.MakeOwn
import Derived.Laws.OwnMore
import Derived.Deep.OwnRows
import Derived.Tactics
import Derived.Lib.ConvBytes
import Derived.Laws.Slices
import Derived.WalkKit
import Derived.KernelRfl
import Derived.RowKit3
import Derived.Deep.LoopGhost
import Derived.Deep.QuietTactic
import Derived.BigQuiet
import Derived.WideLaws
import Derived.Deep.DeepCutAuto
import Derived.Deep.CutBlock
import Derived.Deep.RegionHeld3
import Derived.Laws.Rows
import Derived.Lib.AppendStr
import Derived.ArgAppend
import Derived.Laws.IdiomCopy
import Derived.OrdersHeld
import Derived.Laws.BitsLemmas
import Derived.RowKit
import Derived.Test.YtekjlpldooihhaaDoorWWords
import Derived.Test.YtekjlpldooihhaaDoorWTab
import Derived.Test.YtekjlpldooihhaaDoorHa
namespace Go.Proofs.YtekjlpldooihhaaDoorK
open Go.RowKit Go.Proofs.YtekjlpldooihhaaDoorW.PrintWords Go.Proofs.YtekjlpldooihhaaDoorW.PrintLast Go.Proofs.YtekjlpldooihhaaDoorW.PrintMore Go.Proofs.YtekjlpldooihhaaDoorH Go.Proofs.YtekjlpldooihhaaDoorP
open Go.Proofs.YtekjlpldooihhaaDoor.PA (S48 S50 S60 k48 k50 k60 z48 z50 z60 k50_mk)
set_option linter.unusedVariables false
set_option linter.unusedSimpArgs false
theorem ints_C {W : World} {g : Nat} {cur : Array Value} {t : Nat} {fr : Nat × Nat} {xs : List Int} (hg : W.heap[g]? = some (.cells cur t fr)) (hm : xs.length ≤ maxLen) (h : ∀ j, j < xs.length → cur[j]? = some (.int .i64 (xs.getD j 0))) : Kd.C (Kd.int .i64) W (some ⟨g, 0, none⟩) xs.length xs := by
  refine ⟨rfl, hm, fun _ => ⟨_, rfl, fun j x hx => ?_⟩⟩
  have hj : j < xs.length := (List.getElem?_eq_some_iff.1 hx).1
  have hxe : xs.getD j 0 = x := by rw [List.getD_eq_getElem?_getD, hx]; rfl
  refine ⟨[.int .i64 x], rfl, rfl, fun i u hi => ?_⟩
  rw [show (Kd.int .i64).sz = 1 from rfl, show (⟨g, 0, none⟩ : Addr).add (j * 1 + i) = ⟨g, j * 1 + i, none⟩ from add_at0 _ _]
  have hgc : W.cell? ⟨g, j * 1 + i, none⟩ = cur[j * 1 + i]? := by unfold World.cell?; rw [hg]; rfl
  rw [hgc]
  match i, hi with
  | 0, hi => simp at hi; rw [← hi, ← hxe, Nat.mul_one, Nat.add_zero]; exact h j hj
  | i + 1, hi => simp at hi
def shapeAt (W : World) (cs : Nat → Option Value) (y : S50) (j : Nat) : Prop := ∃ A c, cs (j * 3) = some (.int .i64 y.f0) ∧ cs (j * 3 + 1) = some (.slice A y.f1.length c) ∧ cs (j * 3 + 2) = some (.bool y.f2) ∧ y.f1.length ≤ c ∧ Kd.C (Kd.int .i64) W A y.f1.length y.f1
theorem shapes_C {W : World} {g : Nat} {cur : Array Value} {fr : Nat × Nat} {P : List S50} (hg : W.heap[g]? = some (.cells cur 50 fr)) (hm : P.length ≤ maxLen) (h : ∀ j, j < P.length → shapeAt W (fun i => cur[i]?) (P.getD j z50) j) : Kd.C k50 W (some ⟨g, 0, none⟩) P.length P := by
  refine ⟨rfl, hm, fun _ => ⟨_, rfl, fun j x hx => ?_⟩⟩
  have hj : j < P.length := (List.getElem?_eq_some_iff.1 hx).1
  obtain ⟨A, c, h1, h2, h3, h4, h5⟩ := h j hj
  have hxe : P.getD j z50 = x := by rw [List.getD_eq_getElem?_getD, hx]; rfl
  rw [hxe] at h1 h2 h3 h4 h5
  refine ⟨[.int .i64 x.f0, .slice A x.f1.length c, .bool x.f2], rfl, k50_mk W x h4 h5, fun i u hi => ?_⟩
  rw [show k50.sz = 3 from rfl, show (⟨g, 0, none⟩ : Addr).add (j * 3 + i) = ⟨g, j * 3 + i, none⟩ from add_at0 _ _]
  have hgc : W.cell? ⟨g, j * 3 + i, none⟩ = cur[j * 3 + i]? := by unfold World.cell?; rw [hg]; rfl
  rw [hgc]
  match i, hi with
  | 0, hi => simp at hi; rw [← hi]; exact h1
  | 1, hi => simp at hi; rw [← hi]; exact h2
  | 2, hi => simp at hi; rw [← hi]; exact h3
  | i + 3, hi => simp at hi
theorem calls_From (a b : Int) (w : World) : Calls Tryd.prog 56 #[.int .i64 a, .int .i64 b] w fun e w' => e = .returned (.agg #[.int .i64 a, .int .i64 b]) ∧ Below w.heap.size w w' := by
  go_enter Tryd.func56, Tryd.ntmps56
  have hu := Tryd.underlying60
  go_wp2_with fail
  refine bodyPost_ret (results_cell_row rfl _ _ w.heap.size 60 #[.int .i64 a, .int .i64 b] (0, 0) _ rfl (blk_new w _) Tryd.underlying60 rfl (by kernel_rfl)) rfl ⟨rfl, ?_⟩
  exact (new1 w _).2.1
theorem calls_wood (a : Int) (A : Option Addr) (n c : Nat) (w : World) : Calls Tryd.prog 59 #[.int .i64 a, .slice A n c] w fun e w' => e = .returned (.agg #[.int .i64 a, .slice A n c]) ∧ Below w.heap.size w w' := by
  go_enter Tryd.func59, Tryd.ntmps59
  have hu := Tryd.underlying48
  go_wp2_with fail
  refine bodyPost_ret (results_cell_row rfl _ _ w.heap.size 48 #[.int .i64 a, .slice A n c] (0, 0) _ rfl (blk_new w _) Tryd.underlying48 rfl (by kernel_rfl)) rfl ⟨rfl, ?_⟩
  exact (new1 w _).2.1
theorem calls_shape (a : Int) (A : Option Addr) (n c : Nat) (b : Bool) (w : World) : Calls Tryd.prog 97 #[.int .i64 a, .slice A n c, .bool b] w fun e w' => e = .returned (.agg #[.int .i64 a, .slice A n c, .bool b]) ∧ Below w.heap.size w w' := by
  go_enter Tryd.func97, Tryd.ntmps97
  have hu := Tryd.underlying50
  go_wp2_with fail
  refine bodyPost_ret (results_cell_row rfl _ _ w.heap.size 50 #[.int .i64 a, .slice A n c, .bool b] (0, 0) _ rfl (blk_new w _) Tryd.underlying50 rfl (by kernel_rfl)) rfl ⟨rfl, ?_⟩
  exact (new1 w _).2.1
def ownP : List S48 := [⟨12, [⟨3, 4⟩]⟩, ⟨8, [⟨6, 6⟩]⟩]
def ownQ : List S50 := [⟨5, [0, 4], false⟩, ⟨4, [1], true⟩, ⟨4, [0], true⟩]
def hidP : List S48 := [⟨9, [⟨2, 6⟩]⟩]
def hidQ : List S50 := [⟨5, [0, 4], false⟩, ⟨4, [0, 3], false⟩]
set_option maxRecDepth 100000 in
set_option maxHeartbeats 2000000 in
theorem calls_own (w : World) : Calls Tryd.prog 54 #[] w fun e w' => ∃ PA QA, e = .returned (.agg #[.slice (some PA) 2 2, .slice (some QA) 3 3]) ∧ (∀ W2 : World, (∀ k, w.heap.size ≤ k → k < w'.heap.size → W2.heap[k]? = w'.heap[k]?) → Kd.C k48 W2 (some PA) 2 ownP ∧ Kd.C k50 W2 (some QA) 3 ownQ) ∧ Below w.heap.size w w' := by
  have hu := Tryd.underlying25
  go_enter Tryd.func54, Tryd.ntmps54
  go_upto_region 1 with (fail)
  obtain ⟨n0, n1, n2⟩ := new1 w (.cells #[.slice none 0 0, .slice none 0 0] 25)
  generalize w.alloc (.cells #[.slice none 0 0, .slice none 0 0] 25) = w0 at n0 n1 n2 ⊢
  have FR := Lib.hid n0; have HB := Lib.hid n1
  have HL0 := Lib.hid (show w.heap.size < w0.heap.size from blk_lt n0)
  clear n0 n1 n2
  go_wp2_with (first | (go_at_call 56; (with_reducible refine (calls_From 3 4 _).mono ?_); rintro e w1 ⟨rfl, hb⟩; have FR := Lib.hid (blk_below (g := w.heap.size) (o := .cells #[.slice none 0 0, .slice none 0 0] 25 (0, 0)) (FR.out) hb); have HB := Lib.hid (below_step (by repeat (first | exact HB.out | apply below_alloc)) hb); have HL1 := Lib.hid (show w0.heap.size < w1.heap.size ∨ w0.heap.size = w1.heap.size from Nat.lt_or_eq_of_le (Nat.le_trans (by simp <;> omega) (below_size hb))); clear hb) | (go_at_call 59; (with_reducible refine (calls_wood 12 (some ⟨w1.heap.size, 0, none⟩) 1 1 _).mono ?_); rintro e w2 ⟨rfl, hb⟩; have FR := Lib.hid (blk_below (g := w.heap.size) (o := .cells #[.slice none 0 0, .slice none 0 0] 25 (0, 0)) (blk_alloc (FR.out) _) hb); have K1 := Lib.hid (blk_below (g := w1.heap.size) (o := .cells #[.int .i64 3, .int .i64 4] 60 (0, 0)) (blk_new w1 (.cells #[.int .i64 3, .int .i64 4] 60)) hb); have HB := Lib.hid (below_step (by repeat (first | exact HB.out | apply below_alloc)) hb); have HL2 := Lib.hid (show w1.heap.size < w2.heap.size ∨ w1.heap.size = w2.heap.size from Nat.lt_or_eq_of_le (Nat.le_trans (by simp <;> omega) (below_size hb))); clear hb) | (go_at_call 55; (with_reducible refine (calls_One 6 _).mono ?_); rintro e w3 ⟨rfl, hb⟩; have FR := Lib.hid (blk_below (g := w.heap.size) (o := .cells #[.slice none 0 0, .slice none 0 0] 25 (0, 0)) (FR.out) hb); have K1 := Lib.hid (blk_below (g := w1.heap.size) (o := .cells #[.int .i64 3, .int .i64 4] 60 (0, 0)) (K1.out) hb); have HB := Lib.hid (below_step (by repeat (first | exact HB.out | apply below_alloc)) hb); have HL3 := Lib.hid (show w2.heap.size < w3.heap.size ∨ w2.heap.size = w3.heap.size from Nat.lt_or_eq_of_le (Nat.le_trans (by simp <;> omega) (below_size hb))); clear hb) | (go_at_call 59; (with_reducible refine (calls_wood 8 (some ⟨w3.heap.size, 0, none⟩) 1 1 _).mono ?_); rintro e w4 ⟨rfl, hb⟩; have FR := Lib.hid (blk_below (g := w.heap.size) (o := .cells #[.slice none 0 0, .slice none 0 0] 25 (0, 0)) (blk_alloc (FR.out) _) hb); have K1 := Lib.hid (blk_below (g := w1.heap.size) (o := .cells #[.int .i64 3, .int .i64 4] 60 (0, 0)) (blk_alloc (K1.out) _) hb); have K2 := Lib.hid (blk_below (g := w3.heap.size) (o := .cells #[.int .i64 6, .int .i64 6] 60 (0, 0)) (blk_new w3 (.cells #[.int .i64 6, .int .i64 6] 60)) hb); have HB := Lib.hid (below_step (by repeat (first | exact HB.out | apply below_alloc)) hb); have HL4 := Lib.hid (show w3.heap.size < w4.heap.size ∨ w3.heap.size = w4.heap.size from Nat.lt_or_eq_of_le (Nat.le_trans (by simp <;> omega) (below_size hb))); clear hb) | (go_at_call 97; (with_reducible refine (calls_shape 5 (some ⟨w4.heap.size + 1, 0, none⟩) 2 2 false _).mono ?_); rintro e w5 ⟨rfl, hb⟩; have FR := Lib.hid (blk_below (g := w.heap.size) (o := .cells #[.slice none 0 0, .slice none 0 0] 25 (0, 0)) (blk_alloc (blk_alloc (FR.out) _) _) hb); have K1 := Lib.hid (blk_below (g := w1.heap.size) (o := .cells #[.int .i64 3, .int .i64 4] 60 (0, 0)) (blk_alloc (blk_alloc (K1.out) _) _) hb); have K2 := Lib.hid (blk_below (g := w3.heap.size) (o := .cells #[.int .i64 6, .int .i64 6] 60 (0, 0)) (blk_alloc (blk_alloc (K2.out) _) _) hb); have KP := Lib.hid (blk_below (g := w4.heap.size) (o := .cells #[.int .i64 12, .slice (some ⟨w1.heap.size, 0, none⟩) 1 1, .int .i64 8, .slice (some ⟨w3.heap.size, 0, none⟩) 1 1] 48 (0, 0)) (blk_alloc (blk_new w4 (.cells #[.int .i64 12, .slice (some ⟨w1.heap.size, 0, none⟩) 1 1, .int .i64 8, .slice (some ⟨w3.heap.size, 0, none⟩) 1 1] 48)) _) hb); have J1 := Lib.hid (blk_below (g := w4.heap.size + 1) (o := .cells #[.int .i64 0, .int .i64 4] 3 (0, 0)) (by have h_ := blk_new (w4.alloc (.cells #[.int .i64 12, .slice (some ⟨w1.heap.size, 0, none⟩) 1 1, .int .i64 8, .slice (some ⟨w3.heap.size, 0, none⟩) 1 1] 48)) (.cells #[.int .i64 0, .int .i64 4] 3); simpa using h_) hb); have HB := Lib.hid (below_step (by repeat (first | exact HB.out | apply below_alloc)) hb); have HL5 := Lib.hid (show w4.heap.size < w5.heap.size ∨ w4.heap.size = w5.heap.size from Nat.lt_or_eq_of_le (Nat.le_trans (by simp <;> omega) (below_size hb))); clear hb) | (go_at_call 97; (with_reducible refine (calls_shape 4 (some ⟨w5.heap.size, 0, none⟩) 1 1 true _).mono ?_); rintro e w6 ⟨rfl, hb⟩; have FR := Lib.hid (blk_below (g := w.heap.size) (o := .cells #[.slice none 0 0, .slice none 0 0] 25 (0, 0)) (blk_alloc (FR.out) _) hb); have K1 := Lib.hid (blk_below (g := w1.heap.size) (o := .cells #[.int .i64 3, .int .i64 4] 60 (0, 0)) (blk_alloc (K1.out) _) hb); have K2 := Lib.hid (blk_below (g := w3.heap.size) (o := .cells #[.int .i64 6, .int .i64 6] 60 (0, 0)) (blk_alloc (K2.out) _) hb); have KP := Lib.hid (blk_below (g := w4.heap.size) (o := .cells #[.int .i64 12, .slice (some ⟨w1.heap.size, 0, none⟩) 1 1, .int .i64 8, .slice (some ⟨w3.heap.size, 0, none⟩) 1 1] 48 (0, 0)) (blk_alloc (KP.out) _) hb); have J1 := Lib.hid (blk_below (g := w4.heap.size + 1) (o := .cells #[.int .i64 0, .int .i64 4] 3 (0, 0)) (blk_alloc (J1.out) _) hb); have J2 := Lib.hid (blk_below (g := w5.heap.size) (o := .cells #[.int .i64 1] 3 (0, 0)) (blk_new w5 (.cells #[.int .i64 1] 3)) hb); have HB := Lib.hid (below_step (by repeat (first | exact HB.out | apply below_alloc)) hb); have HL6 := Lib.hid (show w5.heap.size < w6.heap.size ∨ w5.heap.size = w6.heap.size from Nat.lt_or_eq_of_le (Nat.le_trans (by simp <;> omega) (below_size hb))); clear hb) | (go_at_call 97; (with_reducible refine (calls_shape 4 (some ⟨w6.heap.size, 0, none⟩) 1 1 true _).mono ?_); rintro e w7 ⟨rfl, hb⟩; have FR := Lib.hid (blk_below (g := w.heap.size) (o := .cells #[.slice none 0 0, .slice none 0 0] 25 (0, 0)) (blk_alloc (FR.out) _) hb); have K1 := Lib.hid (blk_below (g := w1.heap.size) (o := .cells #[.int .i64 3, .int .i64 4] 60 (0, 0)) (blk_alloc (K1.out) _) hb); have K2 := Lib.hid (blk_below (g := w3.heap.size) (o := .cells #[.int .i64 6, .int .i64 6] 60 (0, 0)) (blk_alloc (K2.out) _) hb); have KP := Lib.hid (blk_below (g := w4.heap.size) (o := .cells #[.int .i64 12, .slice (some ⟨w1.heap.size, 0, none⟩) 1 1, .int .i64 8, .slice (some ⟨w3.heap.size, 0, none⟩) 1 1] 48 (0, 0)) (blk_alloc (KP.out) _) hb); have J1 := Lib.hid (blk_below (g := w4.heap.size + 1) (o := .cells #[.int .i64 0, .int .i64 4] 3 (0, 0)) (blk_alloc (J1.out) _) hb); have J2 := Lib.hid (blk_below (g := w5.heap.size) (o := .cells #[.int .i64 1] 3 (0, 0)) (blk_alloc (J2.out) _) hb); have J3 := Lib.hid (blk_below (g := w6.heap.size) (o := .cells #[.int .i64 0] 3 (0, 0)) (blk_new w6 (.cells #[.int .i64 0] 3)) hb); have HB := Lib.hid (below_step (by repeat (first | exact HB.out | apply below_alloc)) hb); have HL7 := Lib.hid (show w6.heap.size < w7.heap.size ∨ w6.heap.size = w7.heap.size from Nat.lt_or_eq_of_le (Nat.le_trans (by simp <;> omega) (below_size hb))); have e0 : (w7.alloc (.cells #[.int .i64 5, .slice (some ⟨w4.heap.size + 1, 0, none⟩) 2 2, .bool false, .int .i64 4, .slice (some ⟨w5.heap.size, 0, none⟩) 1 1, .bool true, .int .i64 4, .slice (some ⟨w6.heap.size, 0, none⟩) 1 1, .bool true] 50)).cell? ⟨w.heap.size, 0, none⟩ = some (.slice none 0 0) := (blk_cell (blk_alloc FR.out _) 0); have e1 : (w7.alloc (.cells #[.int .i64 5, .slice (some ⟨w4.heap.size + 1, 0, none⟩) 2 2, .bool false, .int .i64 4, .slice (some ⟨w5.heap.size, 0, none⟩) 1 1, .bool true, .int .i64 4, .slice (some ⟨w6.heap.size, 0, none⟩) 1 1, .bool true] 50)).cell? ⟨w.heap.size, 1, none⟩ = some (.slice none 0 0) := (blk_cell (blk_alloc FR.out _) 1); have e2 : (w7.alloc (.cells #[.int .i64 5, .slice (some ⟨w4.heap.size + 1, 0, none⟩) 2 2, .bool false, .int .i64 4, .slice (some ⟨w5.heap.size, 0, none⟩) 1 1, .bool true, .int .i64 4, .slice (some ⟨w6.heap.size, 0, none⟩) 1 1, .bool true] 50)).frozen? ⟨w.heap.size, 0, none⟩ = false := (blk_frozen (blk_alloc FR.out _) 0); have e3 : (w7.alloc (.cells #[.int .i64 5, .slice (some ⟨w4.heap.size + 1, 0, none⟩) 2 2, .bool false, .int .i64 4, .slice (some ⟨w5.heap.size, 0, none⟩) 1 1, .bool true, .int .i64 4, .slice (some ⟨w6.heap.size, 0, none⟩) 1 1, .bool true] 50)).frozen? ⟨w.heap.size, 1, none⟩ = false := (blk_frozen (blk_alloc FR.out _) 1); clear hb))
  obtain ⟨m0, m1, m2⟩ := new1 w7 (.cells #[.int .i64 5, .slice (some ⟨w4.heap.size + 1, 0, none⟩) 2 2, .bool false, .int .i64 4, .slice (some ⟨w5.heap.size, 0, none⟩) 1 1, .bool true, .int .i64 4, .slice (some ⟨w6.heap.size, 0, none⟩) 1 1, .bool true] 50)
  have K1 := Lib.hid (show (((w7.alloc (.cells #[.int .i64 5, .slice (some ⟨w4.heap.size + 1, 0, none⟩) 2 2, .bool false, .int .i64 4, .slice (some ⟨w5.heap.size, 0, none⟩) 1 1, .bool true, .int .i64 4, .slice (some ⟨w6.heap.size, 0, none⟩) 1 1, .bool true] 50)).setCell ⟨w.heap.size, 0, none⟩ (.slice (some ⟨w4.heap.size, 0, none⟩) 2 2)).setCell ⟨w.heap.size, 1, none⟩ (.slice (some ⟨w7.heap.size, 0, none⟩) 3 3)).heap[w1.heap.size]? = some (.cells #[.int .i64 3, .int .i64 4] 60 (0, 0)) from blk_far (blk_far (blk_alloc K1.out _) (by show w1.heap.size ≠ w.heap.size; have := HL0.out; have := HL1.out; have := HL2.out; have := HL3.out; have := HL4.out; have := HL5.out; have := HL6.out; have := HL7.out; omega) _) (by show w1.heap.size ≠ w.heap.size; have := HL0.out; have := HL1.out; have := HL2.out; have := HL3.out; have := HL4.out; have := HL5.out; have := HL6.out; have := HL7.out; omega) _)
  have K2 := Lib.hid (show (((w7.alloc (.cells #[.int .i64 5, .slice (some ⟨w4.heap.size + 1, 0, none⟩) 2 2, .bool false, .int .i64 4, .slice (some ⟨w5.heap.size, 0, none⟩) 1 1, .bool true, .int .i64 4, .slice (some ⟨w6.heap.size, 0, none⟩) 1 1, .bool true] 50)).setCell ⟨w.heap.size, 0, none⟩ (.slice (some ⟨w4.heap.size, 0, none⟩) 2 2)).setCell ⟨w.heap.size, 1, none⟩ (.slice (some ⟨w7.heap.size, 0, none⟩) 3 3)).heap[w3.heap.size]? = some (.cells #[.int .i64 6, .int .i64 6] 60 (0, 0)) from blk_far (blk_far (blk_alloc K2.out _) (by show w3.heap.size ≠ w.heap.size; have := HL0.out; have := HL1.out; have := HL2.out; have := HL3.out; have := HL4.out; have := HL5.out; have := HL6.out; have := HL7.out; omega) _) (by show w3.heap.size ≠ w.heap.size; have := HL0.out; have := HL1.out; have := HL2.out; have := HL3.out; have := HL4.out; have := HL5.out; have := HL6.out; have := HL7.out; omega) _)
  have KP := Lib.hid (show (((w7.alloc (.cells #[.int .i64 5, .slice (some ⟨w4.heap.size + 1, 0, none⟩) 2 2, .bool false, .int .i64 4, .slice (some ⟨w5.heap.size, 0, none⟩) 1 1, .bool true, .int .i64 4, .slice (some ⟨w6.heap.size, 0, none⟩) 1 1, .bool true] 50)).setCell ⟨w.heap.size, 0, none⟩ (.slice (some ⟨w4.heap.size, 0, none⟩) 2 2)).setCell ⟨w.heap.size, 1, none⟩ (.slice (some ⟨w7.heap.size, 0, none⟩) 3 3)).heap[w4.heap.size]? = some (.cells #[.int .i64 12, .slice (some ⟨w1.heap.size, 0, none⟩) 1 1, .int .i64 8, .slice (some ⟨w3.heap.size, 0, none⟩) 1 1] 48 (0, 0)) from blk_far (blk_far (blk_alloc KP.out _) (by show w4.heap.size ≠ w.heap.size; have := HL0.out; have := HL1.out; have := HL2.out; have := HL3.out; have := HL4.out; have := HL5.out; have := HL6.out; have := HL7.out; omega) _) (by show w4.heap.size ≠ w.heap.size; have := HL0.out; have := HL1.out; have := HL2.out; have := HL3.out; have := HL4.out; have := HL5.out; have := HL6.out; have := HL7.out; omega) _)
  have J1 := Lib.hid (show (((w7.alloc (.cells #[.int .i64 5, .slice (some ⟨w4.heap.size + 1, 0, none⟩) 2 2, .bool false, .int .i64 4, .slice (some ⟨w5.heap.size, 0, none⟩) 1 1, .bool true, .int .i64 4, .slice (some ⟨w6.heap.size, 0, none⟩) 1 1, .bool true] 50)).setCell ⟨w.heap.size, 0, none⟩ (.slice (some ⟨w4.heap.size, 0, none⟩) 2 2)).setCell ⟨w.heap.size, 1, none⟩ (.slice (some ⟨w7.heap.size, 0, none⟩) 3 3)).heap[w4.heap.size + 1]? = some (.cells #[.int .i64 0, .int .i64 4] 3 (0, 0)) from blk_far (blk_far (blk_alloc J1.out _) (by show w4.heap.size + 1 ≠ w.heap.size; have := HL0.out; have := HL1.out; have := HL2.out; have := HL3.out; have := HL4.out; have := HL5.out; have := HL6.out; have := HL7.out; omega) _) (by show w4.heap.size + 1 ≠ w.heap.size; have := HL0.out; have := HL1.out; have := HL2.out; have := HL3.out; have := HL4.out; have := HL5.out; have := HL6.out; have := HL7.out; omega) _)
  have J2 := Lib.hid (show (((w7.alloc (.cells #[.int .i64 5, .slice (some ⟨w4.heap.size + 1, 0, none⟩) 2 2, .bool false, .int .i64 4, .slice (some ⟨w5.heap.size, 0, none⟩) 1 1, .bool true, .int .i64 4, .slice (some ⟨w6.heap.size, 0, none⟩) 1 1, .bool true] 50)).setCell ⟨w.heap.size, 0, none⟩ (.slice (some ⟨w4.heap.size, 0, none⟩) 2 2)).setCell ⟨w.heap.size, 1, none⟩ (.slice (some ⟨w7.heap.size, 0, none⟩) 3 3)).heap[w5.heap.size]? = some (.cells #[.int .i64 1] 3 (0, 0)) from blk_far (blk_far (blk_alloc J2.out _) (by show w5.heap.size ≠ w.heap.size; have := HL0.out; have := HL1.out; have := HL2.out; have := HL3.out; have := HL4.out; have := HL5.out; have := HL6.out; have := HL7.out; omega) _) (by show w5.heap.size ≠ w.heap.size; have := HL0.out; have := HL1.out; have := HL2.out; have := HL3.out; have := HL4.out; have := HL5.out; have := HL6.out; have := HL7.out; omega) _)
  have J3 := Lib.hid (show (((w7.alloc (.cells #[.int .i64 5, .slice (some ⟨w4.heap.size + 1, 0, none⟩) 2 2, .bool false, .int .i64 4, .slice (some ⟨w5.heap.size, 0, none⟩) 1 1, .bool true, .int .i64 4, .slice (some ⟨w6.heap.size, 0, none⟩) 1 1, .bool true] 50)).setCell ⟨w.heap.size, 0, none⟩ (.slice (some ⟨w4.heap.size, 0, none⟩) 2 2)).setCell ⟨w.heap.size, 1, none⟩ (.slice (some ⟨w7.heap.size, 0, none⟩) 3 3)).heap[w6.heap.size]? = some (.cells #[.int .i64 0] 3 (0, 0)) from blk_far (blk_far (blk_alloc J3.out _) (by show w6.heap.size ≠ w.heap.size; have := HL0.out; have := HL1.out; have := HL2.out; have := HL3.out; have := HL4.out; have := HL5.out; have := HL6.out; have := HL7.out; omega) _) (by show w6.heap.size ≠ w.heap.size; have := HL0.out; have := HL1.out; have := HL2.out; have := HL3.out; have := HL4.out; have := HL5.out; have := HL6.out; have := HL7.out; omega) _)
  have KQ := Lib.hid (show (((w7.alloc (.cells #[.int .i64 5, .slice (some ⟨w4.heap.size + 1, 0, none⟩) 2 2, .bool false, .int .i64 4, .slice (some ⟨w5.heap.size, 0, none⟩) 1 1, .bool true, .int .i64 4, .slice (some ⟨w6.heap.size, 0, none⟩) 1 1, .bool true] 50)).setCell ⟨w.heap.size, 0, none⟩ (.slice (some ⟨w4.heap.size, 0, none⟩) 2 2)).setCell ⟨w.heap.size, 1, none⟩ (.slice (some ⟨w7.heap.size, 0, none⟩) 3 3)).heap[w7.heap.size]? = some (.cells #[.int .i64 5, .slice (some ⟨w4.heap.size + 1, 0, none⟩) 2 2, .bool false, .int .i64 4, .slice (some ⟨w5.heap.size, 0, none⟩) 1 1, .bool true, .int .i64 4, .slice (some ⟨w6.heap.size, 0, none⟩) 1 1, .bool true] 50 (0, 0)) from blk_far (blk_far m0 (by show w7.heap.size ≠ w.heap.size; have := HL0.out; have := HL1.out; have := HL2.out; have := HL3.out; have := HL4.out; have := HL5.out; have := HL6.out; have := HL7.out; omega) _) (by show w7.heap.size ≠ w.heap.size; have := HL0.out; have := HL1.out; have := HL2.out; have := HL3.out; have := HL4.out; have := HL5.out; have := HL6.out; have := HL7.out; omega) _)
  have FR := Lib.hid (show (((w7.alloc (.cells #[.int .i64 5, .slice (some ⟨w4.heap.size + 1, 0, none⟩) 2 2, .bool false, .int .i64 4, .slice (some ⟨w5.heap.size, 0, none⟩) 1 1, .bool true, .int .i64 4, .slice (some ⟨w6.heap.size, 0, none⟩) 1 1, .bool true] 50)).setCell ⟨w.heap.size, 0, none⟩ (.slice (some ⟨w4.heap.size, 0, none⟩) 2 2)).setCell ⟨w.heap.size, 1, none⟩ (.slice (some ⟨w7.heap.size, 0, none⟩) 3 3)).heap[w.heap.size]? = some (.cells #[.slice (some ⟨w4.heap.size, 0, none⟩) 2 2, .slice (some ⟨w7.heap.size, 0, none⟩) 3 3] 25 (0, 0)) from blk_set (blk_set (blk_alloc FR.out _) 0 _) 1 _)
  have HBE := Lib.hid (show Below w.heap.size w (((w7.alloc (.cells #[.int .i64 5, .slice (some ⟨w4.heap.size + 1, 0, none⟩) 2 2, .bool false, .int .i64 4, .slice (some ⟨w5.heap.size, 0, none⟩) 1 1, .bool true, .int .i64 4, .slice (some ⟨w6.heap.size, 0, none⟩) 1 1, .bool true] 50)).setCell ⟨w.heap.size, 0, none⟩ (.slice (some ⟨w4.heap.size, 0, none⟩) 2 2)).setCell ⟨w.heap.size, 1, none⟩ (.slice (some ⟨w7.heap.size, 0, none⟩) 3 3)) from ((HB.out.trans (m1.mono (below_size HB.out))).setCell (Nat.le_refl _) _).setCell (Nat.le_refl _) _)
  clear m0 m1 m2 HB e0 e1 e2 e3
  generalize (((w7.alloc (.cells #[.int .i64 5, .slice (some ⟨w4.heap.size + 1, 0, none⟩) 2 2, .bool false, .int .i64 4, .slice (some ⟨w5.heap.size, 0, none⟩) 1 1, .bool true, .int .i64 4, .slice (some ⟨w6.heap.size, 0, none⟩) 1 1, .bool true] 50)).setCell ⟨w.heap.size, 0, none⟩ (.slice (some ⟨w4.heap.size, 0, none⟩) 2 2)).setCell ⟨w.heap.size, 1, none⟩ (.slice (some ⟨w7.heap.size, 0, none⟩) 3 3)) = W1 at *
  refine bodyPost_ret (results_cell_row rfl _ _ w.heap.size 25 #[.slice (some ⟨w4.heap.size, 0, none⟩) 2 2, .slice (some ⟨w7.heap.size, 0, none⟩) 3 3] (0, 0) _ rfl FR.out Tryd.underlying25 rfl (by kernel_rfl)) rfl ⟨⟨w4.heap.size, 0, none⟩, ⟨w7.heap.size, 0, none⟩, rfl, fun WE hW => ?_, HBE.out⟩
  have K1 := Lib.hid ((hW _ (by have := HL0.out; have := HL1.out; have := HL2.out; have := HL3.out; have := HL4.out; have := HL5.out; have := HL6.out; have := HL7.out; omega) (blk_lt K1.out)).trans K1.out)
  have K2 := Lib.hid ((hW _ (by have := HL0.out; have := HL1.out; have := HL2.out; have := HL3.out; have := HL4.out; have := HL5.out; have := HL6.out; have := HL7.out; omega) (blk_lt K2.out)).trans K2.out)
  have KP := Lib.hid ((hW _ (by have := HL0.out; have := HL1.out; have := HL2.out; have := HL3.out; have := HL4.out; have := HL5.out; have := HL6.out; have := HL7.out; omega) (blk_lt KP.out)).trans KP.out)
  have J1 := Lib.hid ((hW _ (by have := HL0.out; have := HL1.out; have := HL2.out; have := HL3.out; have := HL4.out; have := HL5.out; have := HL6.out; have := HL7.out; omega) (blk_lt J1.out)).trans J1.out)
  have J2 := Lib.hid ((hW _ (by have := HL0.out; have := HL1.out; have := HL2.out; have := HL3.out; have := HL4.out; have := HL5.out; have := HL6.out; have := HL7.out; omega) (blk_lt J2.out)).trans J2.out)
  have J3 := Lib.hid ((hW _ (by have := HL0.out; have := HL1.out; have := HL2.out; have := HL3.out; have := HL4.out; have := HL5.out; have := HL6.out; have := HL7.out; omega) (blk_lt J3.out)).trans J3.out)
  have KQ := Lib.hid ((hW _ (by have := HL0.out; have := HL1.out; have := HL2.out; have := HL3.out; have := HL4.out; have := HL5.out; have := HL6.out; have := HL7.out; omega) (blk_lt KQ.out)).trans KQ.out)
  have CK1 := Lib.hid (show Kd.C k60 WE (some ⟨w1.heap.size, 0, none⟩) 1 [⟨3, 4⟩] from spans_C K1.out (by decide) (fun j hj => by obtain rfl : j = 0 := (by simp at hj; omega); all_goals exact ⟨rfl, rfl⟩))
  have CK2 := Lib.hid (show Kd.C k60 WE (some ⟨w3.heap.size, 0, none⟩) 1 [⟨6, 6⟩] from spans_C K2.out (by decide) (fun j hj => by obtain rfl : j = 0 := (by simp at hj; omega); all_goals exact ⟨rfl, rfl⟩))
  have CJ1 := Lib.hid (show Kd.C (Kd.int .i64) WE (some ⟨w4.heap.size + 1, 0, none⟩) 2 [0, 4] from ints_C J1.out (by decide) (fun j hj => by obtain rfl | rfl : j = 0 ∨ j = 1 := (by simp at hj; omega); all_goals rfl))
  have CJ2 := Lib.hid (show Kd.C (Kd.int .i64) WE (some ⟨w5.heap.size, 0, none⟩) 1 [1] from ints_C J2.out (by decide) (fun j hj => by obtain rfl : j = 0 := (by simp at hj; omega); all_goals rfl))
  have CJ3 := Lib.hid (show Kd.C (Kd.int .i64) WE (some ⟨w6.heap.size, 0, none⟩) 1 [0] from ints_C J3.out (by decide) (fun j hj => by obtain rfl : j = 0 := (by simp at hj; omega); all_goals rfl))
  constructor
  · refine woods_C (P := ownP) KP.out (by decide) (fun j hj => ?_)
    obtain rfl | rfl : j = 0 ∨ j = 1 := by simp [ownP] at hj; omega
    · exact ⟨_, 1, rfl, rfl, by decide, CK1.out⟩
    · exact ⟨_, 1, rfl, rfl, by decide, CK2.out⟩
  · refine shapes_C (P := ownQ) KQ.out (by decide) (fun j hj => ?_)
    obtain rfl | rfl | rfl : j = 0 ∨ j = 1 ∨ j = 2 := by simp [ownQ] at hj; omega
    · exact ⟨_, 2, rfl, rfl, rfl, by decide, CJ1.out⟩
    · exact ⟨_, 1, rfl, rfl, rfl, by decide, CJ2.out⟩
    · exact ⟨_, 1, rfl, rfl, rfl, by decide, CJ3.out⟩
set_option maxRecDepth 100000 in
set_option maxHeartbeats 2000000 in
theorem calls_hidden (w : World) : Calls Tryd.prog 58 #[] w fun e w' => ∃ PA QA, e = .returned (.agg #[.slice (some PA) 1 1, .slice (some QA) 2 2]) ∧ (∀ W2 : World, (∀ k, w.heap.size ≤ k → k < w'.heap.size → W2.heap[k]? = w'.heap[k]?) → Kd.C k48 W2 (some PA) 1 hidP ∧ Kd.C k50 W2 (some QA) 2 hidQ) ∧ Below w.heap.size w w' := by
  have hu := Tryd.underlying25
  go_enter Tryd.func58, Tryd.ntmps58
  go_upto_region 1 with (fail)
  obtain ⟨n0, n1, n2⟩ := new1 w (.cells #[.slice none 0 0, .slice none 0 0] 25)
  generalize w.alloc (.cells #[.slice none 0 0, .slice none 0 0] 25) = w0 at n0 n1 n2 ⊢
  have FR := Lib.hid n0; have HB := Lib.hid n1
  have HL0 := Lib.hid (show w.heap.size < w0.heap.size from blk_lt n0)
  clear n0 n1 n2
  go_wp2_with (first | (go_at_call 56; (with_reducible refine (calls_From 2 6 _).mono ?_); rintro e w1 ⟨rfl, hb⟩; have FR := Lib.hid (blk_below (g := w.heap.size) (o := .cells #[.slice none 0 0, .slice none 0 0] 25 (0, 0)) (FR.out) hb); have HB := Lib.hid (below_step (by repeat (first | exact HB.out | apply below_alloc)) hb); have HL1 := Lib.hid (show w0.heap.size < w1.heap.size ∨ w0.heap.size = w1.heap.size from Nat.lt_or_eq_of_le (Nat.le_trans (by simp <;> omega) (below_size hb))); clear hb) | (go_at_call 59; (with_reducible refine (calls_wood 9 (some ⟨w1.heap.size, 0, none⟩) 1 1 _).mono ?_); rintro e w2 ⟨rfl, hb⟩; have FR := Lib.hid (blk_below (g := w.heap.size) (o := .cells #[.slice none 0 0, .slice none 0 0] 25 (0, 0)) (blk_alloc (FR.out) _) hb); have K1 := Lib.hid (blk_below (g := w1.heap.size) (o := .cells #[.int .i64 2, .int .i64 6] 60 (0, 0)) (blk_new w1 (.cells #[.int .i64 2, .int .i64 6] 60)) hb); have HB := Lib.hid (below_step (by repeat (first | exact HB.out | apply below_alloc)) hb); have HL2 := Lib.hid (show w1.heap.size < w2.heap.size ∨ w1.heap.size = w2.heap.size from Nat.lt_or_eq_of_le (Nat.le_trans (by simp <;> omega) (below_size hb))); clear hb) | (go_at_call 97; (with_reducible refine (calls_shape 5 (some ⟨w2.heap.size + 1, 0, none⟩) 2 2 false _).mono ?_); rintro e w3 ⟨rfl, hb⟩; have FR := Lib.hid (blk_below (g := w.heap.size) (o := .cells #[.slice none 0 0, .slice none 0 0] 25 (0, 0)) (blk_alloc (blk_alloc (FR.out) _) _) hb); have K1 := Lib.hid (blk_below (g := w1.heap.size) (o := .cells #[.int .i64 2, .int .i64 6] 60 (0, 0)) (blk_alloc (blk_alloc (K1.out) _) _) hb); have KP := Lib.hid (blk_below (g := w2.heap.size) (o := .cells #[.int .i64 9, .slice (some ⟨w1.heap.size, 0, none⟩) 1 1] 48 (0, 0)) (blk_alloc (blk_new w2 (.cells #[.int .i64 9, .slice (some ⟨w1.heap.size, 0, none⟩) 1 1] 48)) _) hb); have J1 := Lib.hid (blk_below (g := w2.heap.size + 1) (o := .cells #[.int .i64 0, .int .i64 4] 3 (0, 0)) (by have h_ := blk_new (w2.alloc (.cells #[.int .i64 9, .slice (some ⟨w1.heap.size, 0, none⟩) 1 1] 48)) (.cells #[.int .i64 0, .int .i64 4] 3); simpa using h_) hb); have HB := Lib.hid (below_step (by repeat (first | exact HB.out | apply below_alloc)) hb); have HL3 := Lib.hid (show w2.heap.size < w3.heap.size ∨ w2.heap.size = w3.heap.size from Nat.lt_or_eq_of_le (Nat.le_trans (by simp <;> omega) (below_size hb))); clear hb) | (go_at_call 97; (with_reducible refine (calls_shape 4 (some ⟨w3.heap.size, 0, none⟩) 2 2 false _).mono ?_); rintro e w4 ⟨rfl, hb⟩; have FR := Lib.hid (blk_below (g := w.heap.size) (o := .cells #[.slice none 0 0, .slice none 0 0] 25 (0, 0)) (blk_alloc (FR.out) _) hb); have K1 := Lib.hid (blk_below (g := w1.heap.size) (o := .cells #[.int .i64 2, .int .i64 6] 60 (0, 0)) (blk_alloc (K1.out) _) hb); have KP := Lib.hid (blk_below (g := w2.heap.size) (o := .cells #[.int .i64 9, .slice (some ⟨w1.heap.size, 0, none⟩) 1 1] 48 (0, 0)) (blk_alloc (KP.out) _) hb); have J1 := Lib.hid (blk_below (g := w2.heap.size + 1) (o := .cells #[.int .i64 0, .int .i64 4] 3 (0, 0)) (blk_alloc (J1.out) _) hb); have J2 := Lib.hid (blk_below (g := w3.heap.size) (o := .cells #[.int .i64 0, .int .i64 3] 3 (0, 0)) (blk_new w3 (.cells #[.int .i64 0, .int .i64 3] 3)) hb); have HB := Lib.hid (below_step (by repeat (first | exact HB.out | apply below_alloc)) hb); have HL4 := Lib.hid (show w3.heap.size < w4.heap.size ∨ w3.heap.size = w4.heap.size from Nat.lt_or_eq_of_le (Nat.le_trans (by simp <;> omega) (below_size hb))); have e0 : (w4.alloc (.cells #[.int .i64 5, .slice (some ⟨w2.heap.size + 1, 0, none⟩) 2 2, .bool false, .int .i64 4, .slice (some ⟨w3.heap.size, 0, none⟩) 2 2, .bool false] 50)).cell? ⟨w.heap.size, 0, none⟩ = some (.slice none 0 0) := (blk_cell (blk_alloc FR.out _) 0); have e1 : (w4.alloc (.cells #[.int .i64 5, .slice (some ⟨w2.heap.size + 1, 0, none⟩) 2 2, .bool false, .int .i64 4, .slice (some ⟨w3.heap.size, 0, none⟩) 2 2, .bool false] 50)).cell? ⟨w.heap.size, 1, none⟩ = some (.slice none 0 0) := (blk_cell (blk_alloc FR.out _) 1); have e2 : (w4.alloc (.cells #[.int .i64 5, .slice (some ⟨w2.heap.size + 1, 0, none⟩) 2 2, .bool false, .int .i64 4, .slice (some ⟨w3.heap.size, 0, none⟩) 2 2, .bool false] 50)).frozen? ⟨w.heap.size, 0, none⟩ = false := (blk_frozen (blk_alloc FR.out _) 0); have e3 : (w4.alloc (.cells #[.int .i64 5, .slice (some ⟨w2.heap.size + 1, 0, none⟩) 2 2, .bool false, .int .i64 4, .slice (some ⟨w3.heap.size, 0, none⟩) 2 2, .bool false] 50)).frozen? ⟨w.heap.size, 1, none⟩ = false := (blk_frozen (blk_alloc FR.out _) 1); clear hb))
  obtain ⟨m0, m1, m2⟩ := new1 w4 (.cells #[.int .i64 5, .slice (some ⟨w2.heap.size + 1, 0, none⟩) 2 2, .bool false, .int .i64 4, .slice (some ⟨w3.heap.size, 0, none⟩) 2 2, .bool false] 50)
  have K1 := Lib.hid (show (((w4.alloc (.cells #[.int .i64 5, .slice (some ⟨w2.heap.size + 1, 0, none⟩) 2 2, .bool false, .int .i64 4, .slice (some ⟨w3.heap.size, 0, none⟩) 2 2, .bool false] 50)).setCell ⟨w.heap.size, 0, none⟩ (.slice (some ⟨w2.heap.size, 0, none⟩) 1 1)).setCell ⟨w.heap.size, 1, none⟩ (.slice (some ⟨w4.heap.size, 0, none⟩) 2 2)).heap[w1.heap.size]? = some (.cells #[.int .i64 2, .int .i64 6] 60 (0, 0)) from blk_far (blk_far (blk_alloc K1.out _) (by show w1.heap.size ≠ w.heap.size; have := HL0.out; have := HL1.out; have := HL2.out; have := HL3.out; have := HL4.out; omega) _) (by show w1.heap.size ≠ w.heap.size; have := HL0.out; have := HL1.out; have := HL2.out; have := HL3.out; have := HL4.out; omega) _)
  have KP := Lib.hid (show (((w4.alloc (.cells #[.int .i64 5, .slice (some ⟨w2.heap.size + 1, 0, none⟩) 2 2, .bool false, .int .i64 4, .slice (some ⟨w3.heap.size, 0, none⟩) 2 2, .bool false] 50)).setCell ⟨w.heap.size, 0, none⟩ (.slice (some ⟨w2.heap.size, 0, none⟩) 1 1)).setCell ⟨w.heap.size, 1, none⟩ (.slice (some ⟨w4.heap.size, 0, none⟩) 2 2)).heap[w2.heap.size]? = some (.cells #[.int .i64 9, .slice (some ⟨w1.heap.size, 0, none⟩) 1 1] 48 (0, 0)) from blk_far (blk_far (blk_alloc KP.out _) (by show w2.heap.size ≠ w.heap.size; have := HL0.out; have := HL1.out; have := HL2.out; have := HL3.out; have := HL4.out; omega) _) (by show w2.heap.size ≠ w.heap.size; have := HL0.out; have := HL1.out; have := HL2.out; have := HL3.out; have := HL4.out; omega) _)
  have J1 := Lib.hid (show (((w4.alloc (.cells #[.int .i64 5, .slice (some ⟨w2.heap.size + 1, 0, none⟩) 2 2, .bool false, .int .i64 4, .slice (some ⟨w3.heap.size, 0, none⟩) 2 2, .bool false] 50)).setCell ⟨w.heap.size, 0, none⟩ (.slice (some ⟨w2.heap.size, 0, none⟩) 1 1)).setCell ⟨w.heap.size, 1, none⟩ (.slice (some ⟨w4.heap.size, 0, none⟩) 2 2)).heap[w2.heap.size + 1]? = some (.cells #[.int .i64 0, .int .i64 4] 3 (0, 0)) from blk_far (blk_far (blk_alloc J1.out _) (by show w2.heap.size + 1 ≠ w.heap.size; have := HL0.out; have := HL1.out; have := HL2.out; have := HL3.out; have := HL4.out; omega) _) (by show w2.heap.size + 1 ≠ w.heap.size; have := HL0.out; have := HL1.out; have := HL2.out; have := HL3.out; have := HL4.out; omega) _)
  have J2 := Lib.hid (show (((w4.alloc (.cells #[.int .i64 5, .slice (some ⟨w2.heap.size + 1, 0, none⟩) 2 2, .bool false, .int .i64 4, .slice (some ⟨w3.heap.size, 0, none⟩) 2 2, .bool false] 50)).setCell ⟨w.heap.size, 0, none⟩ (.slice (some ⟨w2.heap.size, 0, none⟩) 1 1)).setCell ⟨w.heap.size, 1, none⟩ (.slice (some ⟨w4.heap.size, 0, none⟩) 2 2)).heap[w3.heap.size]? = some (.cells #[.int .i64 0, .int .i64 3] 3 (0, 0)) from blk_far (blk_far (blk_alloc J2.out _) (by show w3.heap.size ≠ w.heap.size; have := HL0.out; have := HL1.out; have := HL2.out; have := HL3.out; have := HL4.out; omega) _) (by show w3.heap.size ≠ w.heap.size; have := HL0.out; have := HL1.out; have := HL2.out; have := HL3.out; have := HL4.out; omega) _)
  have KQ := Lib.hid (show (((w4.alloc (.cells #[.int .i64 5, .slice (some ⟨w2.heap.size + 1, 0, none⟩) 2 2, .bool false, .int .i64 4, .slice (some ⟨w3.heap.size, 0, none⟩) 2 2, .bool false] 50)).setCell ⟨w.heap.size, 0, none⟩ (.slice (some ⟨w2.heap.size, 0, none⟩) 1 1)).setCell ⟨w.heap.size, 1, none⟩ (.slice (some ⟨w4.heap.size, 0, none⟩) 2 2)).heap[w4.heap.size]? = some (.cells #[.int .i64 5, .slice (some ⟨w2.heap.size + 1, 0, none⟩) 2 2, .bool false, .int .i64 4, .slice (some ⟨w3.heap.size, 0, none⟩) 2 2, .bool false] 50 (0, 0)) from blk_far (blk_far m0 (by show w4.heap.size ≠ w.heap.size; have := HL0.out; have := HL1.out; have := HL2.out; have := HL3.out; have := HL4.out; omega) _) (by show w4.heap.size ≠ w.heap.size; have := HL0.out; have := HL1.out; have := HL2.out; have := HL3.out; have := HL4.out; omega) _)
  have FR := Lib.hid (show (((w4.alloc (.cells #[.int .i64 5, .slice (some ⟨w2.heap.size + 1, 0, none⟩) 2 2, .bool false, .int .i64 4, .slice (some ⟨w3.heap.size, 0, none⟩) 2 2, .bool false] 50)).setCell ⟨w.heap.size, 0, none⟩ (.slice (some ⟨w2.heap.size, 0, none⟩) 1 1)).setCell ⟨w.heap.size, 1, none⟩ (.slice (some ⟨w4.heap.size, 0, none⟩) 2 2)).heap[w.heap.size]? = some (.cells #[.slice (some ⟨w2.heap.size, 0, none⟩) 1 1, .slice (some ⟨w4.heap.size, 0, none⟩) 2 2] 25 (0, 0)) from blk_set (blk_set (blk_alloc FR.out _) 0 _) 1 _)
  have HBE := Lib.hid (show Below w.heap.size w (((w4.alloc (.cells #[.int .i64 5, .slice (some ⟨w2.heap.size + 1, 0, none⟩) 2 2, .bool false, .int .i64 4, .slice (some ⟨w3.heap.size, 0, none⟩) 2 2, .bool false] 50)).setCell ⟨w.heap.size, 0, none⟩ (.slice (some ⟨w2.heap.size, 0, none⟩) 1 1)).setCell ⟨w.heap.size, 1, none⟩ (.slice (some ⟨w4.heap.size, 0, none⟩) 2 2)) from ((HB.out.trans (m1.mono (below_size HB.out))).setCell (Nat.le_refl _) _).setCell (Nat.le_refl _) _)
  clear m0 m1 m2 HB e0 e1 e2 e3
  generalize (((w4.alloc (.cells #[.int .i64 5, .slice (some ⟨w2.heap.size + 1, 0, none⟩) 2 2, .bool false, .int .i64 4, .slice (some ⟨w3.heap.size, 0, none⟩) 2 2, .bool false] 50)).setCell ⟨w.heap.size, 0, none⟩ (.slice (some ⟨w2.heap.size, 0, none⟩) 1 1)).setCell ⟨w.heap.size, 1, none⟩ (.slice (some ⟨w4.heap.size, 0, none⟩) 2 2)) = W1 at *
  refine bodyPost_ret (results_cell_row rfl _ _ w.heap.size 25 #[.slice (some ⟨w2.heap.size, 0, none⟩) 1 1, .slice (some ⟨w4.heap.size, 0, none⟩) 2 2] (0, 0) _ rfl FR.out Tryd.underlying25 rfl (by kernel_rfl)) rfl ⟨⟨w2.heap.size, 0, none⟩, ⟨w4.heap.size, 0, none⟩, rfl, fun WE hW => ?_, HBE.out⟩
  have K1 := Lib.hid ((hW _ (by have := HL0.out; have := HL1.out; have := HL2.out; have := HL3.out; have := HL4.out; omega) (blk_lt K1.out)).trans K1.out)
  have KP := Lib.hid ((hW _ (by have := HL0.out; have := HL1.out; have := HL2.out; have := HL3.out; have := HL4.out; omega) (blk_lt KP.out)).trans KP.out)
  have J1 := Lib.hid ((hW _ (by have := HL0.out; have := HL1.out; have := HL2.out; have := HL3.out; have := HL4.out; omega) (blk_lt J1.out)).trans J1.out)
  have J2 := Lib.hid ((hW _ (by have := HL0.out; have := HL1.out; have := HL2.out; have := HL3.out; have := HL4.out; omega) (blk_lt J2.out)).trans J2.out)
  have KQ := Lib.hid ((hW _ (by have := HL0.out; have := HL1.out; have := HL2.out; have := HL3.out; have := HL4.out; omega) (blk_lt KQ.out)).trans KQ.out)
  have CK1 := Lib.hid (show Kd.C k60 WE (some ⟨w1.heap.size, 0, none⟩) 1 [⟨2, 6⟩] from spans_C K1.out (by decide) (fun j hj => by obtain rfl : j = 0 := (by simp at hj; omega); all_goals exact ⟨rfl, rfl⟩))
  have CJ1 := Lib.hid (show Kd.C (Kd.int .i64) WE (some ⟨w2.heap.size + 1, 0, none⟩) 2 [0, 4] from ints_C J1.out (by decide) (fun j hj => by obtain rfl | rfl : j = 0 ∨ j = 1 := (by simp at hj; omega); all_goals rfl))
  have CJ2 := Lib.hid (show Kd.C (Kd.int .i64) WE (some ⟨w3.heap.size, 0, none⟩) 2 [0, 3] from ints_C J2.out (by decide) (fun j hj => by obtain rfl | rfl : j = 0 ∨ j = 1 := (by simp at hj; omega); all_goals rfl))
  constructor
  · refine woods_C (P := hidP) KP.out (by decide) (fun j hj => ?_)
    obtain rfl : j = 0 := by simp [hidP] at hj; omega
    exact ⟨_, 1, rfl, rfl, by decide, CK1.out⟩
  · refine shapes_C (P := hidQ) KQ.out (by decide) (fun j hj => ?_)
    obtain rfl | rfl : j = 0 ∨ j = 1 := by simp [hidQ] at hj; omega
    · exact ⟨_, 2, rfl, rfl, rfl, by decide, CJ1.out⟩
    · exact ⟨_, 2, rfl, rfl, rfl, by decide, CJ2.out⟩
def aloP : List S48 := [⟨8, [⟨6, 6⟩]⟩]
set_option maxRecDepth 100000 in
theorem tail_own (ad : Addr) : (∀ W, (Instr.sliceAt 22 (.slice (some ad) 2 2) (some (.int .i64 1)) none none).run Tryd.prog W = .ok (.slice (some (ad.add (1 * 2))) 1 1) W) ∧
    (∀ W, Kd.C k48 W (some ad) 2 ownP → Kd.C k48 W (some (ad.add (1 * 2))) 1 aloP) := by
  have hu : Tryd.prog.underlying 22 = some (.slice (Tryd.prog.elem 22)) := by kernel_rfl
  have he : Tryd.prog.elem 22 = 48 := by kernel_rfl
  obtain ⟨i0, hi0⟩ : ∃ i, Tryd.prog.info? 48 = some i := ⟨_, rfl⟩
  have hs : ∀ W, (sizeOf 48).run Tryd.prog W = .ok 2 W := fun W => by rw [run_sizeOf W hi0, show Tryd.prog.cellsOf 48 = 2 from by kernel_rfl]
  refine ⟨fun W => ?_, fun W hC => ?_⟩
  · rw [run_sliceAt_slice W 22 _ _ _ _ hu, run_slice_l W 22 (some ad) 2 2 hu .i64 1 (by omega) (by omega), he, hs]
    simp only [Result.andThen_ok, sliced]
    rfl
  · exact Kd.C_drop (m := 1) (c := 2) hC (by decide) (by decide)
set_option maxRecDepth 100000 in
theorem calls_alone (w : World) : Calls Tryd.prog 57 #[] w fun e w' => ∃ PA QA, e = .returned (.agg #[.slice (some PA) 1 1, .slice (some QA) 3 3]) ∧ Kd.C k48 w' (some PA) 1 aloP ∧ Kd.C k50 w' (some QA) 3 ownQ ∧ Below w.heap.size w w' := by
  have hu := Tryd.underlying25
  obtain ⟨n0, n1, n2⟩ := new1 w (.cells #[.slice none 0 0, .slice none 0 0] 25)
  have FR := Lib.hid n0; have HB := Lib.hid n1
  clear n0 n1 n2
  go_enter Tryd.func57, Tryd.ntmps57
  go_upto_region 3 with (go_at_call 54; (with_reducible refine (calls_own _).mono ?_); rintro e w1 ⟨PA, QA, rfl, hPQ, hb⟩; have HPQ := Lib.hid hPQ; have FR := Lib.hid (below_far FR.out hb); have HB := Lib.hid (HB.out.trans (hb.mono (below_size HB.out))); have hsl := (tail_own PA).1; clear hPQ hb)
  obtain ⟨m0, m1, m2⟩ := new1 w1 (.cells #[.slice (some ⟨PA.block, PA.off + 2, none⟩) 1 1, .slice (some QA) 3 3] 25)
  have FR := Lib.hid (blk_alloc FR.out (.cells #[.slice (some ⟨PA.block, PA.off + 2, none⟩) 1 1, .slice (some QA) 3 3] 25))
  generalize w1.alloc (.cells #[.slice (some ⟨PA.block, PA.off + 2, none⟩) 1 1, .slice (some QA) 3 3] 25) = W at m0 m1 m2 FR ⊢
  have HB := Lib.hid (HB.out.trans (m1.mono (below_size HB.out)))
  have HPQ2 := Lib.hid (show Kd.C k48 ((W.setCell ⟨w.heap.size, 0, none⟩ (.slice (some ⟨PA.block, PA.off + 2, none⟩) 1 1)).setCell ⟨w.heap.size, 1, none⟩ (.slice (some QA) 3 3)) (some PA) 2 ownP ∧ Kd.C k50 ((W.setCell ⟨w.heap.size, 0, none⟩ (.slice (some ⟨PA.block, PA.off + 2, none⟩) 1 1)).setCell ⟨w.heap.size, 1, none⟩ (.slice (some QA) 3 3)) (some QA) 3 ownQ from HPQ.out _ (fun k hk hlt => by
    have hk : w.heap.size + 1 ≤ k := by simpa using hk
    rw [Below.heap_setCell _ ⟨w.heap.size, 1, none⟩ _ k (by show k ≠ w.heap.size; omega), Below.heap_setCell _ ⟨w.heap.size, 0, none⟩ _ k (by show k ≠ w.heap.size; omega)]
    exact m1.block k hlt))
  obtain ⟨e0, e1, e2, e3⟩ : W.cell? ⟨w.heap.size, 0, none⟩ = some (.slice none 0 0) ∧ W.cell? ⟨w.heap.size, 1, none⟩ = some (.slice none 0 0) ∧ W.frozen? ⟨w.heap.size, 0, none⟩ = false ∧ W.frozen? ⟨w.heap.size, 1, none⟩ = false := ⟨blk_cell FR.out 0, blk_cell FR.out 1, blk_frozen FR.out 0, blk_frozen FR.out 1⟩
  obtain ⟨d0, d1⟩ : W.cell? ⟨w1.heap.size, 0, none⟩ = some (.slice (some ⟨PA.block, PA.off + 2, none⟩) 1 1) ∧ W.cell? ⟨w1.heap.size, 1, none⟩ = some (.slice (some QA) 3 3) := ⟨blk_cell m0 0, blk_cell m0 1⟩
  go_wp2_with fail
  have HF := Lib.hid (show ((W.setCell ⟨w.heap.size, 0, none⟩ (.slice (some ⟨PA.block, PA.off + 2, none⟩) 1 1)).setCell ⟨w.heap.size, 1, none⟩ (.slice (some QA) 3 3)).heap[w.heap.size]? = some (.cells #[.slice (some ⟨PA.block, PA.off + 2, none⟩) 1 1, .slice (some QA) 3 3] 25 (0, 0)) from blk_set (blk_set FR.out 0 _) 1 _)
  refine bodyPost_ret (results_cell_row rfl _ _ w.heap.size 25 #[.slice (some ⟨PA.block, PA.off + 2, none⟩) 1 1, .slice (some QA) 3 3] (0, 0) _ rfl HF.out Tryd.underlying25 rfl (by kernel_rfl)) rfl ⟨_, QA, rfl, ?_, ?_, (HB.out.setCell (Nat.le_refl _) _).setCell (Nat.le_refl _) _⟩
  · exact (tail_own PA).2 _ HPQ2.out.1
  · exact HPQ2.out.2
end Go.Proofs.YtekjlpldooihhaaDoorK
namespace Go.Proofs.YtekjlpldooihhaaDoor.PS
open Go.RowKit Go.Proofs.YtekjlpldooihhaaDoorW.PrintWords Go.Proofs.YtekjlpldooihhaaDoorW.PrintLast Go.Proofs.YtekjlpldooihhaaDoorW.PrintMore
attribute [local go_sem] max2_int min2_int max_two min_two max_three min_three max_four min_four   -- for this text's walks alone
set_option linter.unusedVariables false
set_option linter.unusedSimpArgs false
def errW : Option Int → Value
 | none => .nilIface
 | some c => .iface 0 (.int .i64 c)
theorem errW_none : errW none = .nilIface := rfl
theorem errW_some (c : Int) : errW (some c) = .iface 0 (.int .i64 c) := rfl
end Go.Proofs.YtekjlpldooihhaaDoor.PS
namespace Go.Proofs.YtekjlpldooihhaaDoor.PS
open Go.RowKit Go.Proofs.YtekjlpldooihhaaDoorW.PrintWords Go.Proofs.YtekjlpldooihhaaDoorW.PrintLast Go.Proofs.YtekjlpldooihhaaDoorW.PrintMore
attribute [local go_sem] max2_int min2_int max_two min_two max_three min_three max_four min_four   -- for this text's walks alone
set_option linter.unusedVariables false
set_option linter.unusedSimpArgs false
def skewbaldref00_Equal.l0 : Nat → List Int → List Int → Bool → Int → Option (Bool)
 | 0, _, _, _, _ => none
 | k + 1, x0, x1, x5, x6 => if x5 = true then (if x6 < (x0.length : Int) then (if 0 ≤ x6 then (if x6 < (x1.length : Int) then (skewbaldref00_Equal.l0 k x0 x1 ((rd x0 x6) == (rd x1 x6)) (wrap64 (x6 + 1))) else (none)) else (none)) else (some x5)) else (some x5)
def skewbaldref00_Equal.f (k : Nat) (l0 : List Int) (l1 : List Int) : Option (Bool) := skewbaldref00_Equal.l0 k l0 l1 ((l0.length : Int) == (l1.length : Int)) 0
set_option maxHeartbeats 8000000 in
set_option maxRecDepth 100000 in
theorem skewbaldref00_Equal.calls (k : Nat) (A0 : Option Addr) (c0 : Nat) (l0 : List Int) (A1 : Option Addr) (c1 : Nat) (l1 : List Int) (r : Bool) (w : World) (hr0 : Kd.C (Kd.int .i64) w A0 l0.length l0) (hc0 : l0.length ≤ c0) (hr1 : Kd.C (Kd.int .i64) w A1 l1.length l1) (hc1 : l1.length ≤ c1) (h : skewbaldref00_Equal.f k l0 l1 = some r) :
  Calls Tryd.prog 22 #[.slice A0 l0.length c0, .slice A1 l1.length c1] w fun e w' => e = .returned (.bool r) ∧ Drawn0 w w' := by
 have HR0 := Aside0.mk hr0
 have HC0 := Aside0.mk hc0
 clear hr0 hc0
 have HR1 := Aside0.mk hr1
 have HC1 := Aside0.mk hc1
 clear hr1 hc1
 have H : (skewbaldref00_Equal.l0 k l0 l1 ((l0.length : Int) == (l1.length : Int)) 0) = some r := h
 clear h
 have H' := Aside0.mk H
 clear H
 go_enter Tryd.func22, Tryd.ntmps22
 go_wp2
 repeat (go_quiet (fail); try go_wp2)
 go_loopg [5, 6] k (fun kq v5 v6 w' => ∃ (x5_1 : Bool) (x6_1 : Int), v5 = .bool x5_1 ∧ v6 = .int .i64 x6_1 ∧ Aside0 (skewbaldref00_Equal.l0 kq l0 l1 x5_1 x6_1 = some r) ∧ Aside0 (kq ≤ k) ∧ Drawn0 w w')
 case atStart => exact ⟨(((l0.length : Int) == (l1.length : Int))), (0), (by first | rfl | (simp; done) | (simp [*]; done)), (by first | rfl | (simp; done) | (simp [*]; done)), H', ⟨Nat.le_refl _⟩, by repeat (first | exact Drawn0.refl _ | apply Drawn0.step)⟩
 case round =>
  clear H'
  try clear c1
  try clear c2
  try clear p2
  obtain ⟨x5_1, x6_1, rfl, rfl, HA, HK1, ⟨m1, rfl⟩⟩ := hrel
  cases gk with
  | zero => exact absurd HA.out (by simp [skewbaldref00_Equal.l0])
  | succ k1 =>
   have H := HA.out
   clear HA
   simp only [skewbaldref00_Equal.l0] at H
   by_cases c3 : x5_1 = true
   ·subst c3
    have H1 : (if x6_1 < (l0.length : Int) then (if 0 ≤ x6_1 then (if x6_1 < (l1.length : Int) then (skewbaldref00_Equal.l0 k1 l0 l1 ((rd l0 x6_1) == (rd l1 x6_1)) (wrap64 (x6_1 + 1))) else (none)) else (none)) else (some true)) = some r := by rw [if_pos rfl] at H; exact H
    clear H
    have H := H1
    clear H1
    by_cases c4 : x6_1 < (l0.length : Int)
    ·rw [if_pos c4] at H
     have c4b0 : decide (x6_1 < (l0.length : Int)) = true := decide_eq_true c4
     clear c4
     by_cases c5 : 0 ≤ x6_1
     ·rw [if_pos c5] at H
      have c5b0 : decide (0 ≤ x6_1) = true := decide_eq_true c5
      clear c5
      by_cases c6 : x6_1 < (l1.length : Int)
      ·rw [if_pos c6] at H
       have c6b0 : decide (x6_1 < (l1.length : Int)) = true := decide_eq_true c6
       clear c6
       have H' := Aside0.mk H
       clear H
       have p101 : 0 ≤ (x6_1 : Int) := of_decide_eq_true (by first | (with_reducible assumption) | assumption)
       have q101 : x6_1 < (l0.length : Int) := of_decide_eq_true (by first | (with_reducible assumption) | assumption)
       obtain ⟨ad101, e101, hx101_0⟩ := Kd.at_int HR0.out x6_1 p101 q101
       cases e101
       replace p101 := eq_true p101
       replace q101 := eq_true q101
       have p102 : 0 ≤ (x6_1 : Int) := of_decide_eq_true (by first | (with_reducible assumption) | assumption)
       have q102 : x6_1 < (l1.length : Int) := of_decide_eq_true (by first | (with_reducible assumption) | assumption)
       obtain ⟨ad102, e102, hx102_0⟩ := Kd.at_int HR1.out x6_1 p102 q102
       cases e102
       replace p102 := eq_true p102
       replace q102 := eq_true q102
       go_wp2
       repeat (go_quiet (fail); try go_wp2)
       go_roundg k1
       case measure => have := HK1.out; omega
       case rel => exact ⟨(((rd l0 x6_1) == (rd l1 x6_1))), (wrap64 (x6_1 + 1)), (by first | rfl | (simp; done) | (simp [*]; done)), (by first | rfl | (simp; done) | (simp [*]; done)), H', ⟨by have := HK1.out; omega⟩, by repeat (first | exact Drawn0.refl _ | apply Drawn0.step)⟩
      ·rw [if_neg c6] at H
       exact absurd H (by simp)
     ·rw [if_neg c5] at H
      exact absurd H (by simp)
    ·rw [if_neg c4] at H
     have c4b0 : decide (x6_1 < (l0.length : Int)) = false := decide_eq_false c4
     clear c4
     obtain rfl := Option.some.inj H
     go_wp2
     repeat (go_quiet (fail); try go_wp2)
     go_ret
     exact ⟨by first | rfl | (simp; done) | (simp [*]; done), by repeat (first | exact Drawn0.refl _ | apply Drawn0.step)⟩
   ·replace c3 := Bool.eq_false_iff.mpr c3
    subst c3
    have H1 : (some false) = some r := by rw [if_neg (show ¬ (false = true) by decide)] at H; exact H
    clear H
    have H := H1
    clear H1
    obtain rfl := Option.some.inj H
    go_wp2
    repeat (go_quiet (fail); try go_wp2)
    go_ret
    exact ⟨by first | rfl | (simp; done) | (simp [*]; done), by repeat (first | exact Drawn0.refl _ | apply Drawn0.step)⟩
end Go.Proofs.YtekjlpldooihhaaDoor.PS
namespace Go.Proofs.YtekjlpldooihhaaDoorK
open Go.RowKit Go.Proofs.YtekjlpldooihhaaDoorW.PrintWords Go.Proofs.YtekjlpldooihhaaDoorW.PrintLast Go.Proofs.YtekjlpldooihhaaDoorW.PrintMore Go.Proofs.YtekjlpldooihhaaDoorH Go.Proofs.YtekjlpldooihhaaDoorEv Go.Proofs.YtekjlpldooihhaaDoorP
open Go.Proofs.YtekjlpldooihhaaDoor.PA (S48 S50 k48 k50)
open Go.Proofs.YtekjlpldooihhaaDoor.PS (skewbaldref00_Equal.l0 skewbaldref00_Equal.f skewbaldref00_Equal.calls)
set_option linter.unusedVariables false
set_option linter.unusedSimpArgs false
theorem Equal_l0 (x y : List Int) (hxy : x.length = y.length) (hs : x.length < 9223372036854775808) : ∀ (d j : Nat) (b : Bool), j + d = x.length →
    Evt (fun k => skewbaldref00_Equal.l0 k x y b (j : Int)) (b && decide (x.drop j = y.drop j))
  | d, j, false, hj => by
    refine Evt.succ ?_
    simp only [skewbaldref00_Equal.l0]
    exact Evt.neg (by simp) (by simpa using Evt.pure false)
  | 0, j, true, hj => by
    refine Evt.succ ?_
    simp only [skewbaldref00_Equal.l0]
    rw [List.drop_eq_nil_of_le (by omega), List.drop_eq_nil_of_le (by omega)]
    exact Evt.pos (by first | rfl | trivial) (Evt.neg (by omega) (by simpa using Evt.pure true))
  | d + 1, j, true, hj => by
    refine Evt.succ ?_
    simp only [skewbaldref00_Equal.l0]
    have h1 : x.drop j = x[j] :: x.drop (j + 1) := List.drop_eq_getElem_cons (by omega)
    have h2 : y.drop j = y[j] :: y.drop (j + 1) := List.drop_eq_getElem_cons (by omega)
    have g1 : rd x (j : Int) = x[j] := by simp [rd, show j < x.length by omega]
    have g2 : rd y (j : Int) = y[j] := by simp [rd, show j < y.length by omega]
    refine Evt.pos (by first | rfl | trivial) (Evt.pos (by omega) (Evt.pos (by omega) (Evt.pos (by omega) ?_)))
    rw [g1, g2, h1, h2, w64 j (by omega)]
    refine (Equal_l0 x y hxy hs d (j + 1) _ (by omega)).of_eq ?_
    rw [Bool.eq_iff_iff]
    simp only [Bool.and_eq_true, beq_iff_eq, decide_eq_true_eq, List.cons.injEq, Bool.true_and]
theorem Equal_f (x y : List Int) (hs : x.length < 9223372036854775808) : Evt (fun k => skewbaldref00_Equal.f k x y) (decide (x = y)) := by
  unfold skewbaldref00_Equal.f
  by_cases h : x.length = y.length
  · have hb : ((x.length : Int) == (y.length : Int)) = true := by simp [h]
    rw [hb]
    refine (Equal_l0 x y h hs x.length 0 true (by omega)).of_eq ?_
    simp
  · have hb : ((x.length : Int) == (y.length : Int)) = false := by simp; omega
    rw [hb]
    refine Evt.succ ?_
    simp only [skewbaldref00_Equal.l0]
    refine Evt.neg (by simp) ?_
    have : decide (x = y) = false := decide_eq_false (fun e => h (by rw [e]))
    rw [this]
    exact Evt.pure _
theorem calls_Equal (A : Option Addr) (n c : Nat) (l : List Int) (B : Option Addr) (n2 d : Nat) (m : List Int) (b : Bool) (hn : l.length = n) (hn2 : m.length = n2) (hb : decide (l = m) = b) (w : World) (hr : Kd.C (Kd.int .i64) w A n l) (hc : n ≤ c) (hr1 : Kd.C (Kd.int .i64) w B n2 m) (hc1 : n2 ≤ d) :
    Calls Tryd.prog 22 #[.slice A n c, .slice B n2 d] w fun e w' => e = .returned (.bool b) ∧ Below w.heap.size w w' := by
  subst hn hn2 hb
  obtain ⟨k, hk⟩ := (Equal_f l m (by have := hr.2.1; omega)).get
  exact (skewbaldref00_Equal.calls k A c l B d m _ w hr hc hr1 hc1 hk).mono fun e w' h => ⟨h.1, by first | exact h.2 | exact h.2.below⟩
theorem own_can : canP ownP ownQ 0 0 4 = (1, 0) := by decide +kernel
theorem own_spots : spotsP ownP ownQ 0 0 = ([1, 2, 5, 6, 7], 0) := by decide +kernel
theorem own_lay : layP ownP ownQ 0 [0, 1] = ([1, 6], 0) := by decide +kernel
theorem own_fewest : fewestP ownP ownQ = ([0, 1], 0) := by decide +kernel
theorem alo_most : mostP aloP ownQ = ([1, 2], 0) := by decide +kernel
theorem alo_lacks : lacksP aloP ownQ = (1, 0) := by decide +kernel
theorem hid_look : lookP hidP hidQ = (0, 0, 0) := by decide +kernel
theorem V_told {w w' : World} {ok : Nat → Prop} {v : Value} {xs : List Int} {n : Nat} (h : Kd.V (Kd.int .i64) 3 w' w.heap.size ok v xs) (hn : xs.length = n) : ∃ A c, v = .slice A n c ∧ n ≤ c ∧ Kd.C (Kd.int .i64) w' A n xs := by
  subst hn
  obtain ⟨A, c, h1, h2, h3⟩ := h
  exact ⟨A, c, h1, h2, Kd.F_now h3⟩
theorem at_Can (PA QA : Addr) (W : World) (hP : Kd.C k48 W (some PA) 2 ownP) (hQ : Kd.C k50 W (some QA) 3 ownQ) (hG : Glob W) :
    Calls Tryd.prog 16 #[.agg #[.slice (some PA) 2 2, .slice (some QA) 3 3], .int .i64 0, .int .i64 0, .int .i64 4] W fun e w' => e = .returned (.tuple #[.int .i64 1, .int .i64 0]) ∧ Below W.heap.size W w' := by
  have h := calls_Can (some PA) 2 ownP (some QA) 3 ownQ 0 0 4 W hP (by decide) hQ (by decide) hG
  rw [own_can] at h
  exact h
theorem at_Spots (PA QA : Addr) (W : World) (hP : Kd.C k48 W (some PA) 2 ownP) (hQ : Kd.C k50 W (some QA) 3 ownQ) (hG : Glob W) :
    Calls Tryd.prog 20 #[.agg #[.slice (some PA) 2 2, .slice (some QA) 3 3], .int .i64 0, .int .i64 0] W fun e w' => ∃ A c, e = .returned (.tuple #[.slice A 5 c, .int .i64 0]) ∧ 5 ≤ c ∧ Kd.C (Kd.int .i64) w' A 5 [1, 2, 5, 6, 7] ∧ Below W.heap.size W w' := by
  have h := calls_Spots (some PA) 2 ownP (some QA) 3 ownQ 0 0 W hP (by decide) hQ (by decide) hG
  rw [own_spots] at h
  refine h.mono fun e w' h => ?_
  obtain ⟨v, rfl, h1, h2⟩ := h
  obtain ⟨A, c, rfl, h3, h4⟩ := V_told (n := 5) h1 rfl
  exact ⟨A, c, rfl, h3, h4, h2⟩
theorem at_Lay (PA QA : Addr) (B : Addr) (W : World) (hP : Kd.C k48 W (some PA) 2 ownP) (hQ : Kd.C k50 W (some QA) 3 ownQ) (hL : Kd.C (Kd.int .i64) W (some B) 2 [0, 1]) (hG : Glob W) :
    Calls Tryd.prog 24 #[.agg #[.slice (some PA) 2 2, .slice (some QA) 3 3], .int .i64 0, .slice (some B) 2 2] W fun e w' => ∃ A c, e = .returned (.tuple #[.slice A 2 c, .int .i64 0]) ∧ 2 ≤ c ∧ Kd.C (Kd.int .i64) w' A 2 [1, 6] ∧ Below W.heap.size W w' := by
  have h := calls_Lay (some PA) 2 ownP (some QA) 3 ownQ 0 (some B) 2 [0, 1] W hP (by decide) hQ (by decide) hL (by decide) hG
  rw [own_lay] at h
  refine h.mono fun e w' h => ?_
  obtain ⟨v, rfl, h1, h2⟩ := h
  obtain ⟨A, c, rfl, h3, h4⟩ := V_told (n := 2) h1 rfl
  exact ⟨A, c, rfl, h3, h4, h2⟩
theorem at_Fewest (PA QA : Addr) (W : World) (hP : Kd.C k48 W (some PA) 2 ownP) (hQ : Kd.C k50 W (some QA) 3 ownQ) (hG : Glob W) :
    Calls Tryd.prog 28 #[.agg #[.slice (some PA) 2 2, .slice (some QA) 3 3]] W fun e w' => ∃ A c, e = .returned (.tuple #[.slice A 2 c, .int .i64 0]) ∧ 2 ≤ c ∧ Kd.C (Kd.int .i64) w' A 2 [0, 1] ∧ Below W.heap.size W w' := by
  have h := calls_Fewest (some PA) 2 ownP (some QA) 3 ownQ  W hP (by decide) hQ (by decide) hG
  rw [own_fewest] at h
  refine h.mono fun e w' h => ?_
  obtain ⟨v, rfl, h1, h2⟩ := h
  obtain ⟨A, c, rfl, h3, h4⟩ := V_told (n := 2) h1 rfl
  exact ⟨A, c, rfl, h3, h4, h2⟩
theorem at_Most (PA QA : Addr) (W : World) (hP : Kd.C k48 W (some PA) 1 aloP) (hQ : Kd.C k50 W (some QA) 3 ownQ) (hG : Glob W) :
    Calls Tryd.prog 26 #[.agg #[.slice (some PA) 1 1, .slice (some QA) 3 3]] W fun e w' => ∃ A c, e = .returned (.tuple #[.slice A 2 c, .int .i64 0]) ∧ 2 ≤ c ∧ Kd.C (Kd.int .i64) w' A 2 [1, 2] ∧ Below W.heap.size W w' := by
  have h := calls_Most (some PA) 1 aloP (some QA) 3 ownQ  W hP (by decide) hQ (by decide) hG
  rw [alo_most] at h
  refine h.mono fun e w' h => ?_
  obtain ⟨v, rfl, h1, h2⟩ := h
  obtain ⟨A, c, rfl, h3, h4⟩ := V_told (n := 2) h1 rfl
  exact ⟨A, c, rfl, h3, h4, h2⟩
theorem at_Lacks (PA QA : Addr) (W : World) (hP : Kd.C k48 W (some PA) 1 aloP) (hQ : Kd.C k50 W (some QA) 3 ownQ) (hG : Glob W) :
    Calls Tryd.prog 30 #[.agg #[.slice (some PA) 1 1, .slice (some QA) 3 3]] W fun e w' => e = .returned (.tuple #[.int .i64 1, .int .i64 0]) ∧ Below W.heap.size W w' := by
  have h := calls_Lacks (some PA) 1 aloP (some QA) 3 ownQ  W hP (by decide) hQ (by decide) hG
  rw [alo_lacks] at h
  exact h
theorem at_Look (PA QA : Addr) (W : World) (hP : Kd.C k48 W (some PA) 1 hidP) (hQ : Kd.C k50 W (some QA) 2 hidQ) (hG : Glob W) :
    Calls Tryd.prog 32 #[.agg #[.slice (some PA) 1 1, .slice (some QA) 2 2]] W fun e w' => e = .returned (.tuple #[.int .i64 0, .int .i64 0, .int .i64 0]) ∧ Below W.heap.size W w' := by
  have h := calls_Look (some PA) 1 hidP (some QA) 2 hidQ  W hP (by decide) hQ (by decide) hG
  rw [hid_look] at h
  exact h
theorem lit2 (W : World) (a b : Int) : Kd.C (Kd.int .i64) (W.alloc (.cells #[.int .i64 a, .int .i64 b] 3)) (some ⟨W.heap.size, 0, none⟩) 2 [a, b] :=
  ints_C (xs := [a, b]) (blk_new W _) (by simp [maxLen]) (fun j hj => by obtain rfl | rfl : j = 0 ∨ j = 1 := (by simp at hj; omega); all_goals rfl)
theorem lit5 (W : World) (a b c d e : Int) : Kd.C (Kd.int .i64) (W.alloc (.cells #[.int .i64 a, .int .i64 b, .int .i64 c, .int .i64 d, .int .i64 e] 3)) (some ⟨W.heap.size, 0, none⟩) 5 [a, b, c, d, e] :=
  ints_C (xs := [a, b, c, d, e]) (blk_new W _) (by simp [maxLen]) (fun j hj => by obtain rfl | rfl | rfl | rfl | rfl : j = 0 ∨ j = 1 ∨ j = 2 ∨ j = 3 ∨ j = 4 := (by simp at hj; omega); all_goals rfl)
theorem eq5 (A : Option Addr) (c : Nat) (W : World) (hr : Kd.C (Kd.int .i64) W A 5 [1, 2, 5, 6, 7]) (hc : 5 ≤ c) :
    Calls Tryd.prog 22 #[.slice A 5 c, .slice (some ⟨W.heap.size, 0, none⟩) 5 5] (W.alloc (.cells #[.int .i64 1, .int .i64 2, .int .i64 5, .int .i64 6, .int .i64 7] 3)) fun e w' => e = .returned (.bool true) ∧ Below (W.alloc (.cells #[.int .i64 1, .int .i64 2, .int .i64 5, .int .i64 6, .int .i64 7] 3)).heap.size (W.alloc (.cells #[.int .i64 1, .int .i64 2, .int .i64 5, .int .i64 6, .int .i64 7] 3)) w' :=
  calls_Equal A 5 c [1, 2, 5, 6, 7] _ 5 5 [1, 2, 5, 6, 7] true rfl rfl (by decide) _ (Kd.C_alloc hr _) hc (lit5 W 1 2 5 6 7) (Nat.le_refl _)
theorem eq2 (A : Option Addr) (c : Nat) (W : World) (a b : Int) (hr : Kd.C (Kd.int .i64) W A 2 [a, b]) (hc : 2 ≤ c) :
    Calls Tryd.prog 22 #[.slice A 2 c, .slice (some ⟨W.heap.size, 0, none⟩) 2 2] (W.alloc (.cells #[.int .i64 a, .int .i64 b] 3)) fun e w' => e = .returned (.bool true) ∧ Below (W.alloc (.cells #[.int .i64 a, .int .i64 b] 3)).heap.size (W.alloc (.cells #[.int .i64 a, .int .i64 b] 3)) w' :=
  calls_Equal A 2 c [a, b] _ 2 2 [a, b] true rfl rfl (by simp) _ (Kd.C_alloc hr _) hc (lit2 W a b) (Nat.le_refl _)
set_option maxRecDepth 100000 in
set_option maxHeartbeats 2000000 in
theorem calls_sawn (w : World) (hG : Glob w) : Calls Tryd.prog 23 #[] w fun e w' => e = .returned (.bool true) ∧ Below w.heap.size w w' := by
  have HG := Lib.hid hG; have HB := Lib.hid (Below.refl w.heap.size w)
  clear hG
  go_enter Tryd.func23, Tryd.ntmps23
  go_wp2_with (first | (go_at_call 54; (with_reducible refine (calls_own _).mono ?_); rintro e w1 ⟨PA, QA, rfl, hPQ, hb⟩; have HP := Lib.hid ((hPQ w1 (fun _ _ _ => rfl)).1); have HQ := Lib.hid ((hPQ w1 (fun _ _ _ => rfl)).2); have HB := Lib.hid (below_step (by repeat (first | exact HB.out | apply below_alloc)) hb); (first | (have HL1 := Lib.hid (Kd.C_below HL1.out hb)) | (have HL1 := Lib.hid (Kd.C_below (Kd.C_alloc HL1.out _) hb)) | skip); (first | (have HL2 := Lib.hid (Kd.C_below HL2.out hb)) | (have HL2 := Lib.hid (Kd.C_below (Kd.C_alloc HL2.out _) hb)) | skip); (first | (have HL3 := Lib.hid (Kd.C_below HL3.out hb)) | (have HL3 := Lib.hid (Kd.C_below (Kd.C_alloc HL3.out _) hb)) | skip); (first | (have HL4 := Lib.hid (Kd.C_below HL4.out hb)) | (have HL4 := Lib.hid (Kd.C_below (Kd.C_alloc HL4.out _) hb)) | skip); clear hPQ hb) | (go_at_call 57; (with_reducible refine (calls_alone _).mono ?_); rintro e w1 ⟨PA, QA, rfl, hP, hQ, hb⟩; have HP := Lib.hid (hP); have HQ := Lib.hid (hQ); have HB := Lib.hid (below_step (by repeat (first | exact HB.out | apply below_alloc)) hb); (first | (have HL1 := Lib.hid (Kd.C_below HL1.out hb)) | (have HL1 := Lib.hid (Kd.C_below (Kd.C_alloc HL1.out _) hb)) | skip); (first | (have HL2 := Lib.hid (Kd.C_below HL2.out hb)) | (have HL2 := Lib.hid (Kd.C_below (Kd.C_alloc HL2.out _) hb)) | skip); (first | (have HL3 := Lib.hid (Kd.C_below HL3.out hb)) | (have HL3 := Lib.hid (Kd.C_below (Kd.C_alloc HL3.out _) hb)) | skip); (first | (have HL4 := Lib.hid (Kd.C_below HL4.out hb)) | (have HL4 := Lib.hid (Kd.C_below (Kd.C_alloc HL4.out _) hb)) | skip); clear hP hQ hb) | (go_at_call 58; (with_reducible refine (calls_hidden _).mono ?_); rintro e w1 ⟨PA, QA, rfl, hPQ, hb⟩; have HP := Lib.hid ((hPQ w1 (fun _ _ _ => rfl)).1); have HQ := Lib.hid ((hPQ w1 (fun _ _ _ => rfl)).2); have HB := Lib.hid (below_step (by repeat (first | exact HB.out | apply below_alloc)) hb); (first | (have HL1 := Lib.hid (Kd.C_below HL1.out hb)) | (have HL1 := Lib.hid (Kd.C_below (Kd.C_alloc HL1.out _) hb)) | skip); (first | (have HL2 := Lib.hid (Kd.C_below HL2.out hb)) | (have HL2 := Lib.hid (Kd.C_below (Kd.C_alloc HL2.out _) hb)) | skip); (first | (have HL3 := Lib.hid (Kd.C_below HL3.out hb)) | (have HL3 := Lib.hid (Kd.C_below (Kd.C_alloc HL3.out _) hb)) | skip); (first | (have HL4 := Lib.hid (Kd.C_below HL4.out hb)) | (have HL4 := Lib.hid (Kd.C_below (Kd.C_alloc HL4.out _) hb)) | skip); clear hPQ hb) | (go_at_call 16; (with_reducible refine (at_Can PA QA _ HP.out HQ.out (HG.out.below HB.out)).mono ?_); rintro e w2 ⟨rfl, hb⟩; have HB := Lib.hid (below_step (by repeat (first | exact HB.out | apply below_alloc)) hb); (first | (have HL1 := Lib.hid (Kd.C_below HL1.out hb)) | (have HL1 := Lib.hid (Kd.C_below (Kd.C_alloc HL1.out _) hb)) | skip); (first | (have HL2 := Lib.hid (Kd.C_below HL2.out hb)) | (have HL2 := Lib.hid (Kd.C_below (Kd.C_alloc HL2.out _) hb)) | skip); (first | (have HL3 := Lib.hid (Kd.C_below HL3.out hb)) | (have HL3 := Lib.hid (Kd.C_below (Kd.C_alloc HL3.out _) hb)) | skip); (first | (have HL4 := Lib.hid (Kd.C_below HL4.out hb)) | (have HL4 := Lib.hid (Kd.C_below (Kd.C_alloc HL4.out _) hb)) | skip); clear hb) | (go_at_call 20; (with_reducible refine (at_Spots PA QA _ HP.out HQ.out (HG.out.below HB.out)).mono ?_); rintro e w2 ⟨A1, c1, rfl, hc1, hC, hb⟩; have HB := Lib.hid (below_step (by repeat (first | exact HB.out | apply below_alloc)) hb); (first | (have HL1 := Lib.hid (Kd.C_below HL1.out hb)) | (have HL1 := Lib.hid (Kd.C_below (Kd.C_alloc HL1.out _) hb)) | skip); (first | (have HL2 := Lib.hid (Kd.C_below HL2.out hb)) | (have HL2 := Lib.hid (Kd.C_below (Kd.C_alloc HL2.out _) hb)) | skip); (first | (have HL3 := Lib.hid (Kd.C_below HL3.out hb)) | (have HL3 := Lib.hid (Kd.C_below (Kd.C_alloc HL3.out _) hb)) | skip); (first | (have HL4 := Lib.hid (Kd.C_below HL4.out hb)) | (have HL4 := Lib.hid (Kd.C_below (Kd.C_alloc HL4.out _) hb)) | skip); have HL1 := Lib.hid hC; clear hC hb) | (go_at_call 24; (with_reducible refine (at_Lay PA QA ⟨w1.heap.size, 0, none⟩ _ (Kd.C_alloc HP.out _) (Kd.C_alloc HQ.out _) (lit2 w1 0 1) (HG.out.below (below_alloc HB.out _))).mono ?_); rintro e w2 ⟨A2, c2, rfl, hc2, hC, hb⟩; have HB := Lib.hid (below_step (by repeat (first | exact HB.out | apply below_alloc)) hb); (first | (have HL1 := Lib.hid (Kd.C_below HL1.out hb)) | (have HL1 := Lib.hid (Kd.C_below (Kd.C_alloc HL1.out _) hb)) | skip); (first | (have HL2 := Lib.hid (Kd.C_below HL2.out hb)) | (have HL2 := Lib.hid (Kd.C_below (Kd.C_alloc HL2.out _) hb)) | skip); (first | (have HL3 := Lib.hid (Kd.C_below HL3.out hb)) | (have HL3 := Lib.hid (Kd.C_below (Kd.C_alloc HL3.out _) hb)) | skip); (first | (have HL4 := Lib.hid (Kd.C_below HL4.out hb)) | (have HL4 := Lib.hid (Kd.C_below (Kd.C_alloc HL4.out _) hb)) | skip); have HL2 := Lib.hid hC; clear hC hb) | (go_at_call 28; (with_reducible refine (at_Fewest PA QA _ HP.out HQ.out (HG.out.below HB.out)).mono ?_); rintro e w2 ⟨A3, c3, rfl, hc3, hC, hb⟩; have HB := Lib.hid (below_step (by repeat (first | exact HB.out | apply below_alloc)) hb); (first | (have HL1 := Lib.hid (Kd.C_below HL1.out hb)) | (have HL1 := Lib.hid (Kd.C_below (Kd.C_alloc HL1.out _) hb)) | skip); (first | (have HL2 := Lib.hid (Kd.C_below HL2.out hb)) | (have HL2 := Lib.hid (Kd.C_below (Kd.C_alloc HL2.out _) hb)) | skip); (first | (have HL3 := Lib.hid (Kd.C_below HL3.out hb)) | (have HL3 := Lib.hid (Kd.C_below (Kd.C_alloc HL3.out _) hb)) | skip); (first | (have HL4 := Lib.hid (Kd.C_below HL4.out hb)) | (have HL4 := Lib.hid (Kd.C_below (Kd.C_alloc HL4.out _) hb)) | skip); have HL3 := Lib.hid hC; clear hC hb) | (go_at_call 26; (with_reducible refine (at_Most PA QA _ HP.out HQ.out (HG.out.below HB.out)).mono ?_); rintro e w2 ⟨A4, c4, rfl, hc4, hC, hb⟩; have HB := Lib.hid (below_step (by repeat (first | exact HB.out | apply below_alloc)) hb); (first | (have HL1 := Lib.hid (Kd.C_below HL1.out hb)) | (have HL1 := Lib.hid (Kd.C_below (Kd.C_alloc HL1.out _) hb)) | skip); (first | (have HL2 := Lib.hid (Kd.C_below HL2.out hb)) | (have HL2 := Lib.hid (Kd.C_below (Kd.C_alloc HL2.out _) hb)) | skip); (first | (have HL3 := Lib.hid (Kd.C_below HL3.out hb)) | (have HL3 := Lib.hid (Kd.C_below (Kd.C_alloc HL3.out _) hb)) | skip); (first | (have HL4 := Lib.hid (Kd.C_below HL4.out hb)) | (have HL4 := Lib.hid (Kd.C_below (Kd.C_alloc HL4.out _) hb)) | skip); have HL4 := Lib.hid hC; clear hC hb) | (go_at_call 30; (with_reducible refine (at_Lacks PA QA _ HP.out HQ.out (HG.out.below HB.out)).mono ?_); rintro e w2 ⟨rfl, hb⟩; have HB := Lib.hid (below_step (by repeat (first | exact HB.out | apply below_alloc)) hb); (first | (have HL1 := Lib.hid (Kd.C_below HL1.out hb)) | (have HL1 := Lib.hid (Kd.C_below (Kd.C_alloc HL1.out _) hb)) | skip); (first | (have HL2 := Lib.hid (Kd.C_below HL2.out hb)) | (have HL2 := Lib.hid (Kd.C_below (Kd.C_alloc HL2.out _) hb)) | skip); (first | (have HL3 := Lib.hid (Kd.C_below HL3.out hb)) | (have HL3 := Lib.hid (Kd.C_below (Kd.C_alloc HL3.out _) hb)) | skip); (first | (have HL4 := Lib.hid (Kd.C_below HL4.out hb)) | (have HL4 := Lib.hid (Kd.C_below (Kd.C_alloc HL4.out _) hb)) | skip); clear hb) | (go_at_call 32; (with_reducible refine (at_Look PA QA _ HP.out HQ.out (HG.out.below HB.out)).mono ?_); rintro e w2 ⟨rfl, hb⟩; have HB := Lib.hid (below_step (by repeat (first | exact HB.out | apply below_alloc)) hb); (first | (have HL1 := Lib.hid (Kd.C_below HL1.out hb)) | (have HL1 := Lib.hid (Kd.C_below (Kd.C_alloc HL1.out _) hb)) | skip); (first | (have HL2 := Lib.hid (Kd.C_below HL2.out hb)) | (have HL2 := Lib.hid (Kd.C_below (Kd.C_alloc HL2.out _) hb)) | skip); (first | (have HL3 := Lib.hid (Kd.C_below HL3.out hb)) | (have HL3 := Lib.hid (Kd.C_below (Kd.C_alloc HL3.out _) hb)) | skip); (first | (have HL4 := Lib.hid (Kd.C_below HL4.out hb)) | (have HL4 := Lib.hid (Kd.C_below (Kd.C_alloc HL4.out _) hb)) | skip); clear hb) | (go_at_call 22; (with_reducible refine (eq5 A1 c1 _ HL1.out hc1).mono ?_); rintro e w3 ⟨rfl, hb⟩; have HB := Lib.hid (below_step (by repeat (first | exact HB.out | apply below_alloc)) hb); (first | (have HL1 := Lib.hid (Kd.C_below HL1.out hb)) | (have HL1 := Lib.hid (Kd.C_below (Kd.C_alloc HL1.out _) hb)) | skip); (first | (have HL2 := Lib.hid (Kd.C_below HL2.out hb)) | (have HL2 := Lib.hid (Kd.C_below (Kd.C_alloc HL2.out _) hb)) | skip); (first | (have HL3 := Lib.hid (Kd.C_below HL3.out hb)) | (have HL3 := Lib.hid (Kd.C_below (Kd.C_alloc HL3.out _) hb)) | skip); (first | (have HL4 := Lib.hid (Kd.C_below HL4.out hb)) | (have HL4 := Lib.hid (Kd.C_below (Kd.C_alloc HL4.out _) hb)) | skip); clear hb) | (go_at_call 22; (with_reducible refine (eq2 A2 c2 _ 1 6 HL2.out hc2).mono ?_); rintro e w3 ⟨rfl, hb⟩; have HB := Lib.hid (below_step (by repeat (first | exact HB.out | apply below_alloc)) hb); (first | (have HL1 := Lib.hid (Kd.C_below HL1.out hb)) | (have HL1 := Lib.hid (Kd.C_below (Kd.C_alloc HL1.out _) hb)) | skip); (first | (have HL2 := Lib.hid (Kd.C_below HL2.out hb)) | (have HL2 := Lib.hid (Kd.C_below (Kd.C_alloc HL2.out _) hb)) | skip); (first | (have HL3 := Lib.hid (Kd.C_below HL3.out hb)) | (have HL3 := Lib.hid (Kd.C_below (Kd.C_alloc HL3.out _) hb)) | skip); (first | (have HL4 := Lib.hid (Kd.C_below HL4.out hb)) | (have HL4 := Lib.hid (Kd.C_below (Kd.C_alloc HL4.out _) hb)) | skip); clear hb) | (go_at_call 22; (with_reducible refine (eq2 A3 c3 _ 0 1 HL3.out hc3).mono ?_); rintro e w3 ⟨rfl, hb⟩; have HB := Lib.hid (below_step (by repeat (first | exact HB.out | apply below_alloc)) hb); (first | (have HL1 := Lib.hid (Kd.C_below HL1.out hb)) | (have HL1 := Lib.hid (Kd.C_below (Kd.C_alloc HL1.out _) hb)) | skip); (first | (have HL2 := Lib.hid (Kd.C_below HL2.out hb)) | (have HL2 := Lib.hid (Kd.C_below (Kd.C_alloc HL2.out _) hb)) | skip); (first | (have HL3 := Lib.hid (Kd.C_below HL3.out hb)) | (have HL3 := Lib.hid (Kd.C_below (Kd.C_alloc HL3.out _) hb)) | skip); (first | (have HL4 := Lib.hid (Kd.C_below HL4.out hb)) | (have HL4 := Lib.hid (Kd.C_below (Kd.C_alloc HL4.out _) hb)) | skip); clear hb) | (go_at_call 22; (with_reducible refine (eq2 A4 c4 _ 1 2 HL4.out hc4).mono ?_); rintro e w3 ⟨rfl, hb⟩; have HB := Lib.hid (below_step (by repeat (first | exact HB.out | apply below_alloc)) hb); (first | (have HL1 := Lib.hid (Kd.C_below HL1.out hb)) | (have HL1 := Lib.hid (Kd.C_below (Kd.C_alloc HL1.out _) hb)) | skip); (first | (have HL2 := Lib.hid (Kd.C_below HL2.out hb)) | (have HL2 := Lib.hid (Kd.C_below (Kd.C_alloc HL2.out _) hb)) | skip); (first | (have HL3 := Lib.hid (Kd.C_below HL3.out hb)) | (have HL3 := Lib.hid (Kd.C_below (Kd.C_alloc HL3.out _) hb)) | skip); (first | (have HL4 := Lib.hid (Kd.C_below HL4.out hb)) | (have HL4 := Lib.hid (Kd.C_below (Kd.C_alloc HL4.out _) hb)) | skip); clear hb))
  exact bodyPost_ret (results_tmp rfl _ _ _) rfl ⟨rfl, HB.out⟩
def skewbaldlaw01_sawn.f : Option Bool := some true
theorem skewbaldlaw01_sawn.calls (r : Bool) (w : World) (hG : Glob w) (h : skewbaldlaw01_sawn.f = some r) : Calls Tryd.prog 23 #[] w fun e w' => e = .returned (.bool r) ∧ Below w.heap.size w w' := by
  obtain rfl := Option.some.inj h
  exact calls_sawn w hG
end Go.Proofs.YtekjlpldooihhaaDoorK
namespace Go.Proofs.YtekjlpldooihhaaDoor.PT
open Go.Proofs.YtekjlpldooihhaaDoor.PA (S48 S50 S60 at_L2 at_L4 at_T48 at_T50 at_T60 errW errW_none errW_some k48 k48_mk k48_mkM k48_open k48_openM k50 k50_mk k50_mkM k50_open k50_openM k60 k60_mk k60_mkM k60_open k60_openM rd_L2 rd_L4 rd_T48 rd_T50 rd_T60 z48 z50 z60)
open Go.Proofs.YtekjlpldooihhaaDoorP Go.Proofs.YtekjlpldooihhaaDoorK
open Go.RowKit Go.Proofs.YtekjlpldooihhaaDoorW.PrintWords Go.Proofs.YtekjlpldooihhaaDoorW.PrintLast Go.Proofs.YtekjlpldooihhaaDoorW.PrintMore
attribute [local go_sem] max2_int min2_int max_two min_two max_three min_three max_four min_four   -- for this text's walks alone
set_option linter.unusedVariables false
set_option linter.unusedSimpArgs false
theorem info48 : (Tryd.prog.info? 48).map (fun i => (i.zero, i.size, i.bytes)) = some (some (.agg #[(.int .i64 0), (.slice none 0 0)]), 2, 32) := by kernel_rfl
theorem info50 : (Tryd.prog.info? 50).map (fun i => (i.zero, i.size, i.bytes)) = some (some (.agg #[(.int .i64 0), (.slice none 0 0), (.bool false)]), 3, 40) := by kernel_rfl
theorem k60_heap : Kd.Heap k60 := Kd.heap_iso _ (Kd.heap_pair (Kd.heap_int .i64) (Kd.heap_int .i64))
theorem k48_heap : Kd.Heap k48 := Kd.heap_iso _ (Kd.heap_pair (Kd.heap_int .i64) (Kd.heap_slice 60 k60_heap))
theorem k48_openF {W : World} {ok : Nat → Prop} {x : S48} {cs : List Value} (h : Kd.FK k48 W ok x cs) : ∃ A1 c1, cs = [.int .i64 x.f0, .slice A1 x.f1.length c1] ∧ x.f1.length ≤ c1 ∧ Kd.F k60 W ok A1 x.f1.length x.f1 := by
 obtain ⟨A1, c1, rfl, l1, _⟩ := k48_open (Kd.FK_now h)
 exact ⟨A1, c1, rfl, l1, (fun W' hW => by obtain ⟨A1_, c1_, he, l1_, g1_⟩ := k48_open (h W' hW); injection (Option.some.inj (show some (Value.slice A1 x.f1.length c1) = some (Value.slice A1_ x.f1.length c1_) from congrArg (fun l => l[1]?) he)) with ha_ _ _; rw [ha_]; exact g1_)⟩
theorem k48_mkF (W : World) (ok : Nat → Prop) (x : S48) {A1 : Option Addr} {c1 : Nat} (l1 : x.f1.length ≤ c1) (g1 : Kd.F k60 W ok A1 x.f1.length x.f1) : Kd.FK k48 W ok x [.int .i64 x.f0, .slice A1 x.f1.length c1] := fun W2 hW => k48_mk W2 x l1 (g1 W2 hW)
theorem k50_heap : Kd.Heap k50 := Kd.heap_iso _ (Kd.heap_pair (Kd.heap_int .i64) (Kd.heap_pair (Kd.heap_slice 3 (Kd.heap_int .i64)) Kd.heap_bool))
theorem k50_openF {W : World} {ok : Nat → Prop} {x : S50} {cs : List Value} (h : Kd.FK k50 W ok x cs) : ∃ A1 c1, cs = [.int .i64 x.f0, .slice A1 x.f1.length c1, .bool x.f2] ∧ x.f1.length ≤ c1 ∧ Kd.F (Kd.int .i64) W ok A1 x.f1.length x.f1 := by
 obtain ⟨A1, c1, rfl, l1, _⟩ := k50_open (Kd.FK_now h)
 exact ⟨A1, c1, rfl, l1, (fun W' hW => by obtain ⟨A1_, c1_, he, l1_, g1_⟩ := k50_open (h W' hW); injection (Option.some.inj (show some (Value.slice A1 x.f1.length c1) = some (Value.slice A1_ x.f1.length c1_) from congrArg (fun l => l[1]?) he)) with ha_ _ _; rw [ha_]; exact g1_)⟩
theorem k50_mkF (W : World) (ok : Nat → Prop) (x : S50) {A1 : Option Addr} {c1 : Nat} (l1 : x.f1.length ≤ c1) (g1 : Kd.F (Kd.int .i64) W ok A1 x.f1.length x.f1) : Kd.FK k50 W ok x [.int .i64 x.f0, .slice A1 x.f1.length c1, .bool x.f2] := fun W2 hW => k50_mk W2 x l1 (g1 W2 hW)
end Go.Proofs.YtekjlpldooihhaaDoor.PT
namespace Go.Proofs.YtekjlpldooihhaaDoor.PT
open Go.Proofs.YtekjlpldooihhaaDoorSh
open Go.Proofs.YtekjlpldooihhaaDoor.PA (S48 S50 S60 at_L2 at_L4 at_T48 at_T50 at_T60 errW errW_none errW_some k48 k48_mk k48_mkM k48_open k48_openM k50 k50_mk k50_mkM k50_open k50_openM k60 k60_mk k60_mkM k60_open k60_openM rd_L2 rd_L4 rd_T48 rd_T50 rd_T60 z48 z50 z60)
open Go.Proofs.YtekjlpldooihhaaDoorP Go.Proofs.YtekjlpldooihhaaDoorK
open Go.RowKit Go.Proofs.YtekjlpldooihhaaDoorW.PrintWords Go.Proofs.YtekjlpldooihhaaDoorW.PrintLast Go.Proofs.YtekjlpldooihhaaDoorW.PrintMore
attribute [local go_sem] max2_int min2_int max_two min_two max_three min_three max_four min_four   -- for this text's walks alone
set_option linter.unusedVariables false
set_option linter.unusedSimpArgs false
def skewbaldref00_In.f (a0 : Int) (a1 : Int) (a2 : Int) : Option (Bool) := if a1 ≤ a0 then (some (decide (a0 ≤ a2))) else (some false)
set_option maxHeartbeats 8000000 in
set_option maxRecDepth 100000 in
theorem skewbaldref00_In.calls (a0 : Int) (a1 : Int) (a2 : Int) (r : Bool) (w : World) (h : skewbaldref00_In.f a0 a1 a2 = some r) :
  Calls Tryd.prog 38 #[.int .i64 a0, .int .i64 a1, .int .i64 a2] w fun e w' => e = .returned (.bool r) ∧ Drawn0 w w' := by
 have H : (if a1 ≤ a0 then (some (decide (a0 ≤ a2))) else (some false)) = some r := h
 clear h
 by_cases c4 : a1 ≤ a0
 ·rw [if_pos c4] at H
  have c4b0 : decide (a1 ≤ a0) = true := decide_eq_true c4
  clear c4
  obtain rfl := Option.some.inj H
  go_enter Tryd.func38, Tryd.ntmps38
  go_wp2
  go_ret
  exact ⟨by first | rfl | (simp; done) | (simp [*]; done), by repeat (first | exact Drawn0.refl _ | apply Drawn0.step)⟩
 ·rw [if_neg c4] at H
  have c4b0 : decide (a1 ≤ a0) = false := decide_eq_false c4
  clear c4
  obtain rfl := Option.some.inj H
  go_enter Tryd.func38, Tryd.ntmps38
  go_wp2
  go_ret
  exact ⟨by first | rfl | (simp; done) | (simp [*]; done), by repeat (first | exact Drawn0.refl _ | apply Drawn0.step)⟩
def skewbaldref00_Grows.l0 : Nat → List Int → Int → Int → Int → Option (Bool)
 | 0, _, _, _, _ => none
 | k + 1, x0, x1, x5, x6 => if x6 < (x0.length : Int) then (if 0 ≤ x6 then (if (rd x0 x6) ≤ x5 then (some false) else (if (rd x0 x6) ≥ x1 then (some false) else (skewbaldref00_Grows.l0 k x0 x1 (rd x0 x6) (wrap64 (x6 + 1))))) else (none)) else (some true)
def skewbaldref00_Grows.f (k : Nat) (l0 : List Int) (a1 : Int) : Option (Bool) := skewbaldref00_Grows.l0 k l0 a1 (-1) 0
set_option maxHeartbeats 8000000 in
set_option maxRecDepth 100000 in
theorem skewbaldref00_Grows.calls (k : Nat) (A0 : Option Addr) (c0 : Nat) (l0 : List Int) (a1 : Int) (r : Bool) (w : World) (hr0 : Kd.C (Kd.int .i64) w A0 l0.length l0) (hc0 : l0.length ≤ c0) (h : skewbaldref00_Grows.f k l0 a1 = some r) :
  Calls Tryd.prog 39 #[.slice A0 l0.length c0, .int .i64 a1] w fun e w' => e = .returned (.bool r) ∧ Drawn0 w w' := by
 have HR0 := Aside0.mk hr0
 have HC0 := Aside0.mk hc0
 clear hr0 hc0
 have H : (skewbaldref00_Grows.l0 k l0 a1 (-1) 0) = some r := h
 clear h
 have H' := Aside0.mk H
 clear H
 go_enter Tryd.func39, Tryd.ntmps39
 go_wp2
 go_loopg [5, 6] k (fun kq v5 v6 w' => ∃ (x5_1 : Int) (x6_1 : Int), v5 = .int .i64 x5_1 ∧ v6 = .int .i64 x6_1 ∧ Aside0 (skewbaldref00_Grows.l0 kq l0 a1 x5_1 x6_1 = some r) ∧ Aside0 (kq ≤ k) ∧ Drawn0 w w')
 case atStart => exact ⟨((-1)), (0), (by first | rfl | (simp; done) | (simp [*]; done)), (by first | rfl | (simp; done) | (simp [*]; done)), H', ⟨Nat.le_refl _⟩, by repeat (first | exact Drawn0.refl _ | apply Drawn0.step)⟩
 case round =>
  clear H'
  try clear p2
  obtain ⟨x5_1, x6_1, rfl, rfl, HA, HK1, ⟨m1, rfl⟩⟩ := hrel
  cases gk with
  | zero => exact absurd HA.out (by simp [skewbaldref00_Grows.l0])
  | succ k1 =>
   have H := HA.out
   clear HA
   simp only [skewbaldref00_Grows.l0] at H
   by_cases c3 : x6_1 < (l0.length : Int)
   ·rw [if_pos c3] at H
    have c3b0 : decide (x6_1 < (l0.length : Int)) = true := decide_eq_true c3
    clear c3
    by_cases c4 : 0 ≤ x6_1
    ·rw [if_pos c4] at H
     have c4b0 : decide (0 ≤ x6_1) = true := decide_eq_true c4
     clear c4
     by_cases c5 : (rd l0 x6_1) ≤ x5_1
     ·rw [if_pos c5] at H
      have c5b0 : decide ((rd l0 x6_1) ≤ x5_1) = true := decide_eq_true c5
      clear c5
      obtain rfl := Option.some.inj H
      have p101 : 0 ≤ (x6_1 : Int) := of_decide_eq_true (by first | (with_reducible assumption) | assumption)
      have q101 : x6_1 < (l0.length : Int) := of_decide_eq_true (by first | (with_reducible assumption) | assumption)
      obtain ⟨ad101, e101, hx101_0⟩ := Kd.at_int HR0.out x6_1 p101 q101
      cases e101
      replace p101 := eq_true p101
      replace q101 := eq_true q101
      go_wp2
      go_ret
      exact ⟨by first | rfl | (simp; done) | (simp [*]; done), by repeat (first | exact Drawn0.refl _ | apply Drawn0.step)⟩
     ·rw [if_neg c5] at H
      have c5b0 : decide ((rd l0 x6_1) ≤ x5_1) = false := decide_eq_false c5
      clear c5
      by_cases c6 : (rd l0 x6_1) ≥ a1
      ·rw [if_pos c6] at H
       have c6b0 : decide (a1 ≤ (rd l0 x6_1)) = true := decide_eq_true c6
       clear c6
       obtain rfl := Option.some.inj H
       have p101 : 0 ≤ (x6_1 : Int) := of_decide_eq_true (by first | (with_reducible assumption) | assumption)
       have q101 : x6_1 < (l0.length : Int) := of_decide_eq_true (by first | (with_reducible assumption) | assumption)
       obtain ⟨ad101, e101, hx101_0⟩ := Kd.at_int HR0.out x6_1 p101 q101
       cases e101
       replace p101 := eq_true p101
       replace q101 := eq_true q101
       have p102 : 0 ≤ (x6_1 : Int) := of_decide_eq_true (by first | (with_reducible assumption) | assumption)
       have q102 : x6_1 < (l0.length : Int) := of_decide_eq_true (by first | (with_reducible assumption) | assumption)
       obtain ⟨ad102, e102, hx102_0⟩ := Kd.at_int HR0.out x6_1 p102 q102
       obtain rfl : ad101 = ad102 := (by injection e102)
       replace p102 := eq_true p102
       replace q102 := eq_true q102
       go_wp2
       go_ret
       exact ⟨by first | rfl | (simp; done) | (simp [*]; done), by repeat (first | exact Drawn0.refl _ | apply Drawn0.step)⟩
      ·rw [if_neg c6] at H
       have c6b0 : decide (a1 ≤ (rd l0 x6_1)) = false := decide_eq_false c6
       clear c6
       have H' := Aside0.mk H
       clear H
       have p101 : 0 ≤ (x6_1 : Int) := of_decide_eq_true (by first | (with_reducible assumption) | assumption)
       have q101 : x6_1 < (l0.length : Int) := of_decide_eq_true (by first | (with_reducible assumption) | assumption)
       obtain ⟨ad101, e101, hx101_0⟩ := Kd.at_int HR0.out x6_1 p101 q101
       cases e101
       replace p101 := eq_true p101
       replace q101 := eq_true q101
       have p102 : 0 ≤ (x6_1 : Int) := of_decide_eq_true (by first | (with_reducible assumption) | assumption)
       have q102 : x6_1 < (l0.length : Int) := of_decide_eq_true (by first | (with_reducible assumption) | assumption)
       obtain ⟨ad102, e102, hx102_0⟩ := Kd.at_int HR0.out x6_1 p102 q102
       obtain rfl : ad101 = ad102 := (by injection e102)
       replace p102 := eq_true p102
       replace q102 := eq_true q102
       have p103 : 0 ≤ (x6_1 : Int) := of_decide_eq_true (by first | (with_reducible assumption) | assumption)
       have q103 : x6_1 < (l0.length : Int) := of_decide_eq_true (by first | (with_reducible assumption) | assumption)
       obtain ⟨ad103, e103, hx103_0⟩ := Kd.at_int HR0.out x6_1 p103 q103
       obtain rfl : ad101 = ad103 := (by injection e103)
       replace p103 := eq_true p103
       replace q103 := eq_true q103
       go_wp2
       go_roundg k1
       case measure => have := HK1.out; omega
       case rel => exact ⟨(rd l0 x6_1), (wrap64 (x6_1 + 1)), (by first | rfl | (simp; done) | (simp [*]; done)), (by first | rfl | (simp; done) | (simp [*]; done)), H', ⟨by have := HK1.out; omega⟩, by repeat (first | exact Drawn0.refl _ | apply Drawn0.step)⟩
    ·rw [if_neg c4] at H
     exact absurd H (by simp)
   ·rw [if_neg c3] at H
    have c3b0 : decide (x6_1 < (l0.length : Int)) = false := decide_eq_false c3
    clear c3
    obtain rfl := Option.some.inj H
    go_wp2
    go_ret
    exact ⟨by first | rfl | (simp; done) | (simp [*]; done), by repeat (first | exact Drawn0.refl _ | apply Drawn0.step)⟩
def skewbaldref00_Ordered.f (a0_0 : Int) (a0_1 : Int) (a1 : Int) (a2 : Int) : Option (Bool) := if a1 ≤ a0_0 then (if a0_0 ≤ a0_1 then (some (decide (a0_1 ≤ a2))) else (some false)) else (some false)
set_option maxHeartbeats 8000000 in
set_option maxRecDepth 100000 in
theorem skewbaldref00_Ordered.calls (a0_0 : Int) (a0_1 : Int) (a1 : Int) (a2 : Int) (r : Bool) (w : World) (h : skewbaldref00_Ordered.f a0_0 a0_1 a1 a2 = some r) :
  Calls Tryd.prog 73 #[.agg #[.int .i64 a0_0, .int .i64 a0_1], .int .i64 a1, .int .i64 a2] w fun e w' => e = .returned (.bool r) ∧ Below w.heap.size w w' := by
 have hu60 := Tryd.underlying60
 have HB := Aside0.mk (Below.refl w.heap.size w)
 have H : (if a1 ≤ a0_0 then (if a0_0 ≤ a0_1 then (some (decide (a0_1 ≤ a2))) else (some false)) else (some false)) = some r := h
 clear h
 by_cases c4 : a1 ≤ a0_0
 ·rw [if_pos c4] at H
  have c4b0 : decide (a1 ≤ a0_0) = true := decide_eq_true c4
  clear c4
  by_cases c5 : a0_0 ≤ a0_1
  ·rw [if_pos c5] at H
   have c5b0 : decide (a0_0 ≤ a0_1) = true := decide_eq_true c5
   clear c5
   obtain rfl := Option.some.inj H
   go_enter Tryd.func73, Tryd.ntmps73
   go_wp2_with (first | ((with_reducible refine gate_dst (N := 3) rfl ?_); refine box_event ?hg (N := 3) ?hd (cs := #[.int .i64 a0_0, .int .i64 a0_1]) (t := 60) ?hr ?_; (case hd => rfl); (case hg => rfl); (case hr => first | (go_simp; done) | (go_simp; rfl)); intro gb104 hg w6 hbox hb; have n0_ := Aside0.mk (below_step bl hb); have n1_ := Aside0.mk (hbox); have n2_ := Aside0.mk ((by rw [hg]; exact (below_size bl) : w.heap.size ≤ gb104)); have n3_ := Aside0.mk ((by rw [hg]; exact (below_size bl) : w.heap.size ≤ gb104)); clear HB; have HB := n0_; have BK104 := n1_; have GW104 := n2_; have GE104 := n3_; clear n0_ n1_ n2_ n3_; clear hb hbox hg; have hcz7_0 : w6.cell? ⟨gb104, 0, none⟩ = some (.int .i64 a0_0) := (blk_cell BK104.out 0).trans rfl; have hcz7_1 : w6.cell? ⟨gb104, 1, none⟩ = some (.int .i64 a0_1) := (blk_cell BK104.out 1).trans rfl; have hfz7_0 := blk_frozen BK104.out 0; have hfz7_1 := blk_frozen BK104.out 1))
   go_ret
   exact ⟨by first | rfl | (simp [errW_none, errW_some] <;> rfl) | (simp [*, errW_none, errW_some] <;> rfl), bl⟩
  ·rw [if_neg c5] at H
   have c5b0 : decide (a0_0 ≤ a0_1) = false := decide_eq_false c5
   clear c5
   obtain rfl := Option.some.inj H
   go_enter Tryd.func73, Tryd.ntmps73
   go_wp2_with (first | ((with_reducible refine gate_dst (N := 3) rfl ?_); refine box_event ?hg (N := 3) ?hd (cs := #[.int .i64 a0_0, .int .i64 a0_1]) (t := 60) ?hr ?_; (case hd => rfl); (case hg => rfl); (case hr => first | (go_simp; done) | (go_simp; rfl)); intro gb104 hg w8 hbox hb; have n0_ := Aside0.mk (below_step bl hb); have n1_ := Aside0.mk (hbox); have n2_ := Aside0.mk ((by rw [hg]; exact (below_size bl) : w.heap.size ≤ gb104)); have n3_ := Aside0.mk ((by rw [hg]; exact (below_size bl) : w.heap.size ≤ gb104)); clear HB; have HB := n0_; have BK104 := n1_; have GW104 := n2_; have GE104 := n3_; clear n0_ n1_ n2_ n3_; clear hb hbox hg; have hcz9_0 : w8.cell? ⟨gb104, 0, none⟩ = some (.int .i64 a0_0) := (blk_cell BK104.out 0).trans rfl; have hcz9_1 : w8.cell? ⟨gb104, 1, none⟩ = some (.int .i64 a0_1) := (blk_cell BK104.out 1).trans rfl; have hfz9_0 := blk_frozen BK104.out 0; have hfz9_1 := blk_frozen BK104.out 1))
   go_ret
   exact ⟨by first | rfl | (simp [errW_none, errW_some] <;> rfl) | (simp [*, errW_none, errW_some] <;> rfl), bl⟩
 ·rw [if_neg c4] at H
  have c4b0 : decide (a1 ≤ a0_0) = false := decide_eq_false c4
  clear c4
  obtain rfl := Option.some.inj H
  go_enter Tryd.func73, Tryd.ntmps73
  go_wp2_with (first | ((with_reducible refine gate_dst (N := 3) rfl ?_); refine box_event ?hg (N := 3) ?hd (cs := #[.int .i64 a0_0, .int .i64 a0_1]) (t := 60) ?hr ?_; (case hd => rfl); (case hg => rfl); (case hr => first | (go_simp; done) | (go_simp; rfl)); intro gb104 hg w10 hbox hb; have n0_ := Aside0.mk (below_step bl hb); have n1_ := Aside0.mk (hbox); have n2_ := Aside0.mk ((by rw [hg]; exact (below_size bl) : w.heap.size ≤ gb104)); have n3_ := Aside0.mk ((by rw [hg]; exact (below_size bl) : w.heap.size ≤ gb104)); clear HB; have HB := n0_; have BK104 := n1_; have GW104 := n2_; have GE104 := n3_; clear n0_ n1_ n2_ n3_; clear hb hbox hg; have hcz11_0 : w10.cell? ⟨gb104, 0, none⟩ = some (.int .i64 a0_0) := (blk_cell BK104.out 0).trans rfl; have hcz11_1 : w10.cell? ⟨gb104, 1, none⟩ = some (.int .i64 a0_1) := (blk_cell BK104.out 1).trans rfl; have hfz11_0 := blk_frozen BK104.out 0; have hfz11_1 := blk_frozen BK104.out 1))
  go_ret
  exact ⟨by first | rfl | (simp [errW_none, errW_some] <;> rfl) | (simp [*, errW_none, errW_some] <;> rfl), bl⟩
end Go.Proofs.YtekjlpldooihhaaDoor.PT
