/- Printed by a program (prx.py). -/
import Derived.Test.YtekjlpldooihhaaDoorPr
import Derived.Test.YtekjlpldooihhaaDoorProg
import Derived.Below
import Derived.Deep.Draws
import Derived.Deep.AppendLies
import Derived.Maps.AppendAt
import Derived.OwnWalk
import Derived.Laws.BytesArg
import Derived.Laws.MakeOwn
import Derived.Laws.OwnMore
import Derived.Deep.OwnRows
import Derived.Tactics
import Derived.Lib.ConvBytes
import Derived.Laws.Slices
import Derived.WalkKit
import Derived.KernelRfl
import Derived.RowKit3
import Derived.Deep.LoopGhost
import Derived.Deep.QuietTactic
import Derived.BigQuiet
import Derived.WideLaws
import Derived.Deep.DeepCutAuto
import Derived.Deep.CutBlock
import Derived.Deep.RegionHeld3
import Derived.Laws.Rows
import Derived.Lib.AppendStr
import Derived.ArgAppend
import Derived.Laws.IdiomCopy
import Derived.OrdersHeld
import Derived.Laws.BitsLemmas
import Derived.RowKit
import Derived.Test.YtekjlpldooihhaaDoorWWords
import Derived.Test.YtekjlpldooihhaaDoorPAx0
namespace Go.Proofs.YtekjlpldooihhaaDoorK
open Go.RowKit Go.Proofs.YtekjlpldooihhaaDoorW.PrintWords Go.Proofs.YtekjlpldooihhaaDoorW.PrintLast Go.Proofs.YtekjlpldooihhaaDoorW.PrintMore Go.Proofs.YtekjlpldooihhaaDoorH Go.Proofs.YtekjlpldooihhaaDoorP
open Go.Proofs.YtekjlpldooihhaaDoor.PA (S48 S50 S60 k48 k50 k60 z48 z50 z60 k50_mk)
set_option linter.unusedVariables false
set_option linter.unusedSimpArgs false
theorem ints_C {W : World} {g : Nat} {cur : Array Value} {t : Nat} {fr : Nat × Nat} {xs : List Int} (hg : W.heap[g]? = some (.cells cur t fr)) (hm : xs.length ≤ maxLen) (h : ∀ j, j < xs.length → cur[j]? = some (.int .i64 (xs.getD j 0))) : Kd.C (Kd.int .i64) W (some ⟨g, 0, none⟩) xs.length xs := by
  refine ⟨rfl, hm, fun _ => ⟨_, rfl, fun j x hx => ?_⟩⟩
  have hj : j < xs.length := (List.getElem?_eq_some_iff.1 hx).1
  have hxe : xs.getD j 0 = x := by rw [List.getD_eq_getElem?_getD, hx]; rfl
  refine ⟨[.int .i64 x], rfl, rfl, fun i u hi => ?_⟩
  rw [show (Kd.int .i64).sz = 1 from rfl, show (⟨g, 0, none⟩ : Addr).add (j * 1 + i) = ⟨g, j * 1 + i, none⟩ from add_at0 _ _]
  have hgc : W.cell? ⟨g, j * 1 + i, none⟩ = cur[j * 1 + i]? := by unfold World.cell?; rw [hg]; rfl
  rw [hgc]
  match i, hi with
  | 0, hi => simp at hi; rw [← hi, ← hxe, Nat.mul_one, Nat.add_zero]; exact h j hj
  | i + 1, hi => simp at hi
def shapeAt (W : World) (cs : Nat → Option Value) (y : S50) (j : Nat) : Prop := ∃ A c, cs (j * 3) = some (.int .i64 y.f0) ∧ cs (j * 3 + 1) = some (.slice A y.f1.length c) ∧ cs (j * 3 + 2) = some (.bool y.f2) ∧ y.f1.length ≤ c ∧ Kd.C (Kd.int .i64) W A y.f1.length y.f1
theorem shapes_C {W : World} {g : Nat} {cur : Array Value} {fr : Nat × Nat} {P : List S50} (hg : W.heap[g]? = some (.cells cur 50 fr)) (hm : P.length ≤ maxLen) (h : ∀ j, j < P.length → shapeAt W (fun i => cur[i]?) (P.getD j z50) j) : Kd.C k50 W (some ⟨g, 0, none⟩) P.length P := by
  refine ⟨rfl, hm, fun _ => ⟨_, rfl, fun j x hx => ?_⟩⟩
  have hj : j < P.length := (List.getElem?_eq_some_iff.1 hx).1
  obtain ⟨A, c, h1, h2, h3, h4, h5⟩ := h j hj
  have hxe : P.getD j z50 = x := by rw [List.getD_eq_getElem?_getD, hx]; rfl
  rw [hxe] at h1 h2 h3 h4 h5
  refine ⟨[.int .i64 x.f0, .slice A x.f1.length c, .bool x.f2], rfl, k50_mk W x h4 h5, fun i u hi => ?_⟩
  rw [show k50.sz = 3 from rfl, show (⟨g, 0, none⟩ : Addr).add (j * 3 + i) = ⟨g, j * 3 + i, none⟩ from add_at0 _ _]
  have hgc : W.cell? ⟨g, j * 3 + i, none⟩ = cur[j * 3 + i]? := by unfold World.cell?; rw [hg]; rfl
  rw [hgc]
  match i, hi with
  | 0, hi => simp at hi; rw [← hi]; exact h1
  | 1, hi => simp at hi; rw [← hi]; exact h2
  | 2, hi => simp at hi; rw [← hi]; exact h3
  | i + 3, hi => simp at hi
theorem calls_From (a b : Int) (w : World) : Calls Tryd.prog 56 #[.int .i64 a, .int .i64 b] w fun e w' => e = .returned (.agg #[.int .i64 a, .int .i64 b]) ∧ Below w.heap.size w w' := by
  go_enter Tryd.func56, Tryd.ntmps56
  have hu := Tryd.underlying60
  go_wp2_with fail
  refine bodyPost_ret (results_cell_row rfl _ _ w.heap.size 60 #[.int .i64 a, .int .i64 b] (0, 0) _ rfl (blk_new w _) Tryd.underlying60 rfl (by kernel_rfl)) rfl ⟨rfl, ?_⟩
  exact (new1 w _).2.1
theorem calls_wood (a : Int) (A : Option Addr) (n c : Nat) (w : World) : Calls Tryd.prog 59 #[.int .i64 a, .slice A n c] w fun e w' => e = .returned (.agg #[.int .i64 a, .slice A n c]) ∧ Below w.heap.size w w' := by
  go_enter Tryd.func59, Tryd.ntmps59
  have hu := Tryd.underlying48
  go_wp2_with fail
  refine bodyPost_ret (results_cell_row rfl _ _ w.heap.size 48 #[.int .i64 a, .slice A n c] (0, 0) _ rfl (blk_new w _) Tryd.underlying48 rfl (by kernel_rfl)) rfl ⟨rfl, ?_⟩
  exact (new1 w _).2.1
theorem calls_shape (a : Int) (A : Option Addr) (n c : Nat) (b : Bool) (w : World) : Calls Tryd.prog 97 #[.int .i64 a, .slice A n c, .bool b] w fun e w' => e = .returned (.agg #[.int .i64 a, .slice A n c, .bool b]) ∧ Below w.heap.size w w' := by
  go_enter Tryd.func97, Tryd.ntmps97
  have hu := Tryd.underlying50
  go_wp2_with fail
  refine bodyPost_ret (results_cell_row rfl _ _ w.heap.size 50 #[.int .i64 a, .slice A n c, .bool b] (0, 0) _ rfl (blk_new w _) Tryd.underlying50 rfl (by kernel_rfl)) rfl ⟨rfl, ?_⟩
  exact (new1 w _).2.1
def ownP : List S48 := [⟨12, [⟨3, 4⟩]⟩, ⟨8, [⟨6, 6⟩]⟩]
def ownQ : List S50 := [⟨5, [0, 4], false⟩, ⟨4, [1], true⟩, ⟨4, [0], true⟩]
def hidP : List S48 := [⟨9, [⟨2, 6⟩]⟩]
def hidQ : List S50 := [⟨5, [0, 4], false⟩, ⟨4, [0, 3], false⟩]
set_option maxRecDepth 100000 in
set_option maxHeartbeats 2000000 in
theorem calls_own (w : World) : Calls Tryd.prog 54 #[] w fun e w' => ∃ PA QA, e = .returned (.agg #[.slice (some PA) 2 2, .slice (some QA) 3 3]) ∧ (∀ W2 : World, (∀ k, w.heap.size ≤ k → k < w'.heap.size → W2.heap[k]? = w'.heap[k]?) → Kd.C k48 W2 (some PA) 2 ownP ∧ Kd.C k50 W2 (some QA) 3 ownQ) ∧ Below w.heap.size w w' := by
  have hu := Tryd.underlying25
  go_enter Tryd.func54, Tryd.ntmps54
  go_upto_region 1 with (fail)
  obtain ⟨n0, n1, n2⟩ := new1 w (.cells #[.slice none 0 0, .slice none 0 0] 25)
  generalize w.alloc (.cells #[.slice none 0 0, .slice none 0 0] 25) = w0 at n0 n1 n2 ⊢
  have FR := Lib.hid n0; have HB := Lib.hid n1
  have HL0 := Lib.hid (show w.heap.size < w0.heap.size from blk_lt n0)
  clear n0 n1 n2
  go_wp2_with (first | (go_at_call 56; (with_reducible refine (calls_From 3 4 _).mono ?_); rintro e w1 ⟨rfl, hb⟩; have FR := Lib.hid (blk_below (g := w.heap.size) (o := .cells #[.slice none 0 0, .slice none 0 0] 25 (0, 0)) (FR.out) hb); have HB := Lib.hid (below_step (by repeat (first | exact HB.out | apply below_alloc)) hb); have HL1 := Lib.hid (show w0.heap.size < w1.heap.size ∨ w0.heap.size = w1.heap.size from Nat.lt_or_eq_of_le (Nat.le_trans (by simp <;> omega) (below_size hb))); clear hb) | (go_at_call 59; (with_reducible refine (calls_wood 12 (some ⟨w1.heap.size, 0, none⟩) 1 1 _).mono ?_); rintro e w2 ⟨rfl, hb⟩; have FR := Lib.hid (blk_below (g := w.heap.size) (o := .cells #[.slice none 0 0, .slice none 0 0] 25 (0, 0)) (blk_alloc (FR.out) _) hb); have K1 := Lib.hid (blk_below (g := w1.heap.size) (o := .cells #[.int .i64 3, .int .i64 4] 60 (0, 0)) (blk_new w1 (.cells #[.int .i64 3, .int .i64 4] 60)) hb); have HB := Lib.hid (below_step (by repeat (first | exact HB.out | apply below_alloc)) hb); have HL2 := Lib.hid (show w1.heap.size < w2.heap.size ∨ w1.heap.size = w2.heap.size from Nat.lt_or_eq_of_le (Nat.le_trans (by simp <;> omega) (below_size hb))); clear hb) | (go_at_call 55; (with_reducible refine (calls_One 6 _).mono ?_); rintro e w3 ⟨rfl, hb⟩; have FR := Lib.hid (blk_below (g := w.heap.size) (o := .cells #[.slice none 0 0, .slice none 0 0] 25 (0, 0)) (FR.out) hb); have K1 := Lib.hid (blk_below (g := w1.heap.size) (o := .cells #[.int .i64 3, .int .i64 4] 60 (0, 0)) (K1.out) hb); have HB := Lib.hid (below_step (by repeat (first | exact HB.out | apply below_alloc)) hb); have HL3 := Lib.hid (show w2.heap.size < w3.heap.size ∨ w2.heap.size = w3.heap.size from Nat.lt_or_eq_of_le (Nat.le_trans (by simp <;> omega) (below_size hb))); clear hb) | (go_at_call 59; (with_reducible refine (calls_wood 8 (some ⟨w3.heap.size, 0, none⟩) 1 1 _).mono ?_); rintro e w4 ⟨rfl, hb⟩; have FR := Lib.hid (blk_below (g := w.heap.size) (o := .cells #[.slice none 0 0, .slice none 0 0] 25 (0, 0)) (blk_alloc (FR.out) _) hb); have K1 := Lib.hid (blk_below (g := w1.heap.size) (o := .cells #[.int .i64 3, .int .i64 4] 60 (0, 0)) (blk_alloc (K1.out) _) hb); have K2 := Lib.hid (blk_below (g := w3.heap.size) (o := .cells #[.int .i64 6, .int .i64 6] 60 (0, 0)) (blk_new w3 (.cells #[.int .i64 6, .int .i64 6] 60)) hb); have HB := Lib.hid (below_step (by repeat (first | exact HB.out | apply below_alloc)) hb); have HL4 := Lib.hid (show w3.heap.size < w4.heap.size ∨ w3.heap.size = w4.heap.size from Nat.lt_or_eq_of_le (Nat.le_trans (by simp <;> omega) (below_size hb))); clear hb) | (go_at_call 97; (with_reducible refine (calls_shape 5 (some ⟨w4.heap.size + 1, 0, none⟩) 2 2 false _).mono ?_); rintro e w5 ⟨rfl, hb⟩; have FR := Lib.hid (blk_below (g := w.heap.size) (o := .cells #[.slice none 0 0, .slice none 0 0] 25 (0, 0)) (blk_alloc (blk_alloc (FR.out) _) _) hb); have K1 := Lib.hid (blk_below (g := w1.heap.size) (o := .cells #[.int .i64 3, .int .i64 4] 60 (0, 0)) (blk_alloc (blk_alloc (K1.out) _) _) hb); have K2 := Lib.hid (blk_below (g := w3.heap.size) (o := .cells #[.int .i64 6, .int .i64 6] 60 (0, 0)) (blk_alloc (blk_alloc (K2.out) _) _) hb); have KP := Lib.hid (blk_below (g := w4.heap.size) (o := .cells #[.int .i64 12, .slice (some ⟨w1.heap.size, 0, none⟩) 1 1, .int .i64 8, .slice (some ⟨w3.heap.size, 0, none⟩) 1 1] 48 (0, 0)) (blk_alloc (blk_new w4 (.cells #[.int .i64 12, .slice (some ⟨w1.heap.size, 0, none⟩) 1 1, .int .i64 8, .slice (some ⟨w3.heap.size, 0, none⟩) 1 1] 48)) _) hb); have J1 := Lib.hid (blk_below (g := w4.heap.size + 1) (o := .cells #[.int .i64 0, .int .i64 4] 3 (0, 0)) (by have h_ := blk_new (w4.alloc (.cells #[.int .i64 12, .slice (some ⟨w1.heap.size, 0, none⟩) 1 1, .int .i64 8, .slice (some ⟨w3.heap.size, 0, none⟩) 1 1] 48)) (.cells #[.int .i64 0, .int .i64 4] 3); simpa using h_) hb); have HB := Lib.hid (below_step (by repeat (first | exact HB.out | apply below_alloc)) hb); have HL5 := Lib.hid (show w4.heap.size < w5.heap.size ∨ w4.heap.size = w5.heap.size from Nat.lt_or_eq_of_le (Nat.le_trans (by simp <;> omega) (below_size hb))); clear hb) | (go_at_call 97; (with_reducible refine (calls_shape 4 (some ⟨w5.heap.size, 0, none⟩) 1 1 true _).mono ?_); rintro e w6 ⟨rfl, hb⟩; have FR := Lib.hid (blk_below (g := w.heap.size) (o := .cells #[.slice none 0 0, .slice none 0 0] 25 (0, 0)) (blk_alloc (FR.out) _) hb); have K1 := Lib.hid (blk_below (g := w1.heap.size) (o := .cells #[.int .i64 3, .int .i64 4] 60 (0, 0)) (blk_alloc (K1.out) _) hb); have K2 := Lib.hid (blk_below (g := w3.heap.size) (o := .cells #[.int .i64 6, .int .i64 6] 60 (0, 0)) (blk_alloc (K2.out) _) hb); have KP := Lib.hid (blk_below (g := w4.heap.size) (o := .cells #[.int .i64 12, .slice (some ⟨w1.heap.size, 0, none⟩) 1 1, .int .i64 8, .slice (some ⟨w3.heap.size, 0, none⟩) 1 1] 48 (0, 0)) (blk_alloc (KP.out) _) hb); have J1 := Lib.hid (blk_below (g := w4.heap.size + 1) (o := .cells #[.int .i64 0, .int .i64 4] 3 (0, 0)) (blk_alloc (J1.out) _) hb); have J2 := Lib.hid (blk_below (g := w5.heap.size) (o := .cells #[.int .i64 1] 3 (0, 0)) (blk_new w5 (.cells #[.int .i64 1] 3)) hb); have HB := Lib.hid (below_step (by repeat (first | exact HB.out | apply below_alloc)) hb); have HL6 := Lib.hid (show w5.heap.size < w6.heap.size ∨ w5.heap.size = w6.heap.size from Nat.lt_or_eq_of_le (Nat.le_trans (by simp <;> omega) (below_size hb))); clear hb) | (go_at_call 97; (with_reducible refine (calls_shape 4 (some ⟨w6.heap.size, 0, none⟩) 1 1 true _).mono ?_); rintro e w7 ⟨rfl, hb⟩; have FR := Lib.hid (blk_below (g := w.heap.size) (o := .cells #[.slice none 0 0, .slice none 0 0] 25 (0, 0)) (blk_alloc (FR.out) _) hb); have K1 := Lib.hid (blk_below (g := w1.heap.size) (o := .cells #[.int .i64 3, .int .i64 4] 60 (0, 0)) (blk_alloc (K1.out) _) hb); have K2 := Lib.hid (blk_below (g := w3.heap.size) (o := .cells #[.int .i64 6, .int .i64 6] 60 (0, 0)) (blk_alloc (K2.out) _) hb); have KP := Lib.hid (blk_below (g := w4.heap.size) (o := .cells #[.int .i64 12, .slice (some ⟨w1.heap.size, 0, none⟩) 1 1, .int .i64 8, .slice (some ⟨w3.heap.size, 0, none⟩) 1 1] 48 (0, 0)) (blk_alloc (KP.out) _) hb); have J1 := Lib.hid (blk_below (g := w4.heap.size + 1) (o := .cells #[.int .i64 0, .int .i64 4] 3 (0, 0)) (blk_alloc (J1.out) _) hb); have J2 := Lib.hid (blk_below (g := w5.heap.size) (o := .cells #[.int .i64 1] 3 (0, 0)) (blk_alloc (J2.out) _) hb); have J3 := Lib.hid (blk_below (g := w6.heap.size) (o := .cells #[.int .i64 0] 3 (0, 0)) (blk_new w6 (.cells #[.int .i64 0] 3)) hb); have HB := Lib.hid (below_step (by repeat (first | exact HB.out | apply below_alloc)) hb); have HL7 := Lib.hid (show w6.heap.size < w7.heap.size ∨ w6.heap.size = w7.heap.size from Nat.lt_or_eq_of_le (Nat.le_trans (by simp <;> omega) (below_size hb))); have e0 : (w7.alloc (.cells #[.int .i64 5, .slice (some ⟨w4.heap.size + 1, 0, none⟩) 2 2, .bool false, .int .i64 4, .slice (some ⟨w5.heap.size, 0, none⟩) 1 1, .bool true, .int .i64 4, .slice (some ⟨w6.heap.size, 0, none⟩) 1 1, .bool true] 50)).cell? ⟨w.heap.size, 0, none⟩ = some (.slice none 0 0) := (blk_cell (blk_alloc FR.out _) 0); have e1 : (w7.alloc (.cells #[.int .i64 5, .slice (some ⟨w4.heap.size + 1, 0, none⟩) 2 2, .bool false, .int .i64 4, .slice (some ⟨w5.heap.size, 0, none⟩) 1 1, .bool true, .int .i64 4, .slice (some ⟨w6.heap.size, 0, none⟩) 1 1, .bool true] 50)).cell? ⟨w.heap.size, 1, none⟩ = some (.slice none 0 0) := (blk_cell (blk_alloc FR.out _) 1); have e2 : (w7.alloc (.cells #[.int .i64 5, .slice (some ⟨w4.heap.size + 1, 0, none⟩) 2 2, .bool false, .int .i64 4, .slice (some ⟨w5.heap.size, 0, none⟩) 1 1, .bool true, .int .i64 4, .slice (some ⟨w6.heap.size, 0, none⟩) 1 1, .bool true] 50)).frozen? ⟨w.heap.size, 0, none⟩ = false := (blk_frozen (blk_alloc FR.out _) 0); have e3 : (w7.alloc (.cells #[.int .i64 5, .slice (some ⟨w4.heap.size + 1, 0, none⟩) 2 2, .bool false, .int .i64 4, .slice (some ⟨w5.heap.size, 0, none⟩) 1 1, .bool true, .int .i64 4, .slice (some ⟨w6.heap.size, 0, none⟩) 1 1, .bool true] 50)).frozen? ⟨w.heap.size, 1, none⟩ = false := (blk_frozen (blk_alloc FR.out _) 1); clear hb))
  obtain ⟨m0, m1, m2⟩ := new1 w7 (.cells #[.int .i64 5, .slice (some ⟨w4.heap.size + 1, 0, none⟩) 2 2, .bool false, .int .i64 4, .slice (some ⟨w5.heap.size, 0, none⟩) 1 1, .bool true, .int .i64 4, .slice (some ⟨w6.heap.size, 0, none⟩) 1 1, .bool true] 50)
  have K1 := Lib.hid (show (((w7.alloc (.cells #[.int .i64 5, .slice (some ⟨w4.heap.size + 1, 0, none⟩) 2 2, .bool false, .int .i64 4, .slice (some ⟨w5.heap.size, 0, none⟩) 1 1, .bool true, .int .i64 4, .slice (some ⟨w6.heap.size, 0, none⟩) 1 1, .bool true] 50)).setCell ⟨w.heap.size, 0, none⟩ (.slice (some ⟨w4.heap.size, 0, none⟩) 2 2)).setCell ⟨w.heap.size, 1, none⟩ (.slice (some ⟨w7.heap.size, 0, none⟩) 3 3)).heap[w1.heap.size]? = some (.cells #[.int .i64 3, .int .i64 4] 60 (0, 0)) from blk_far (blk_far (blk_alloc K1.out _) (by show w1.heap.size ≠ w.heap.size; have := HL0.out; have := HL1.out; have := HL2.out; have := HL3.out; have := HL4.out; have := HL5.out; have := HL6.out; have := HL7.out; omega) _) (by show w1.heap.size ≠ w.heap.size; have := HL0.out; have := HL1.out; have := HL2.out; have := HL3.out; have := HL4.out; have := HL5.out; have := HL6.out; have := HL7.out; omega) _)
  have K2 := Lib.hid (show (((w7.alloc (.cells #[.int .i64 5, .slice (some ⟨w4.heap.size + 1, 0, none⟩) 2 2, .bool false, .int .i64 4, .slice (some ⟨w5.heap.size, 0, none⟩) 1 1, .bool true, .int .i64 4, .slice (some ⟨w6.heap.size, 0, none⟩) 1 1, .bool true] 50)).setCell ⟨w.heap.size, 0, none⟩ (.slice (some ⟨w4.heap.size, 0, none⟩) 2 2)).setCell ⟨w.heap.size, 1, none⟩ (.slice (some ⟨w7.heap.size, 0, none⟩) 3 3)).heap[w3.heap.size]? = some (.cells #[.int .i64 6, .int .i64 6] 60 (0, 0)) from blk_far (blk_far (blk_alloc K2.out _) (by show w3.heap.size ≠ w.heap.size; have := HL0.out; have := HL1.out; have := HL2.out; have := HL3.out; have := HL4.out; have := HL5.out; have := HL6.out; have := HL7.out; omega) _) (by show w3.heap.size ≠ w.heap.size; have := HL0.out; have := HL1.out; have := HL2.out; have := HL3.out; have := HL4.out; have := HL5.out; have := HL6.out; have := HL7.out; omega) _)
  have KP := Lib.hid (show (((w7.alloc (.cells #[.int .i64 5, .slice (some ⟨w4.heap.size + 1, 0, none⟩) 2 2, .bool false, .int .i64 4, .slice (some ⟨w5.heap.size, 0, none⟩) 1 1, .bool true, .int .i64 4, .slice (some ⟨w6.heap.size, 0, none⟩) 1 1, .bool true] 50)).setCell ⟨w.heap.size, 0, none⟩ (.slice (some ⟨w4.heap.size, 0, none⟩) 2 2)).setCell ⟨w.heap.size, 1, none⟩ (.slice (some ⟨w7.heap.size, 0, none⟩) 3 3)).heap[w4.heap.size]? = some (.cells #[.int .i64 12, .slice (some ⟨w1.heap.size, 0, none⟩) 1 1, .int .i64 8, .slice (some ⟨w3.heap.size, 0, none⟩) 1 1] 48 (0, 0)) from blk_far (blk_far (blk_alloc KP.out _) (by show w4.heap.size ≠ w.heap.size; have := HL0.out; have := HL1.out; have := HL2.out; have := HL3.out; have := HL4.out; have := HL5.out; have := HL6.out; have := HL7.out; omega) _) (by show w4.heap.size ≠ w.heap.size; have := HL0.out; have := HL1.out; have := HL2.out; have := HL3.out; have := HL4.out; have := HL5.out; have := HL6.out; have := HL7.out; omega) _)
  have J1 := Lib.hid (show (((w7.alloc (.cells #[.int .i64 5, .slice (some ⟨w4.heap.size + 1, 0, none⟩) 2 2, .bool false, .int .i64 4, .slice (some ⟨w5.heap.size, 0, none⟩) 1 1, .bool true, .int .i64 4, .slice (some ⟨w6.heap.size, 0, none⟩) 1 1, .bool true] 50)).setCell ⟨w.heap.size, 0, none⟩ (.slice (some ⟨w4.heap.size, 0, none⟩) 2 2)).setCell ⟨w.heap.size, 1, none⟩ (.slice (some ⟨w7.heap.size, 0, none⟩) 3 3)).heap[w4.heap.size + 1]? = some (.cells #[.int .i64 0, .int .i64 4] 3 (0, 0)) from blk_far (blk_far (blk_alloc J1.out _) (by show w4.heap.size + 1 ≠ w.heap.size; have := HL0.out; have := HL1.out; have := HL2.out; have := HL3.out; have := HL4.out; have := HL5.out; have := HL6.out; have := HL7.out; omega) _) (by show w4.heap.size + 1 ≠ w.heap.size; have := HL0.out; have := HL1.out; have := HL2.out; have := HL3.out; have := HL4.out; have := HL5.out; have := HL6.out; have := HL7.out; omega) _)
  have J2 := Lib.hid (show (((w7.alloc (.cells #[.int .i64 5, .slice (some ⟨w4.heap.size + 1, 0, none⟩) 2 2, .bool false, .int .i64 4, .slice (some ⟨w5.heap.size, 0, none⟩) 1 1, .bool true, .int .i64 4, .slice (some ⟨w6.heap.size, 0, none⟩) 1 1, .bool true] 50)).setCell ⟨w.heap.size, 0, none⟩ (.slice (some ⟨w4.heap.size, 0, none⟩) 2 2)).setCell ⟨w.heap.size, 1, none⟩ (.slice (some ⟨w7.heap.size, 0, none⟩) 3 3)).heap[w5.heap.size]? = some (.cells #[.int .i64 1] 3 (0, 0)) from blk_far (blk_far (blk_alloc J2.out _) (by show w5.heap.size ≠ w.heap.size; have := HL0.out; have := HL1.out; have := HL2.out; have := HL3.out; have := HL4.out; have := HL5.out; have := HL6.out; have := HL7.out; omega) _) (by show w5.heap.size ≠ w.heap.size; have := HL0.out; have := HL1.out; have := HL2.out; have := HL3.out; have := HL4.out; have := HL5.out; have := HL6.out; have := HL7.out; omega) _)
  have J3 := Lib.hid (show (((w7.alloc (.cells #[.int .i64 5, .slice (some ⟨w4.heap.size + 1, 0, none⟩) 2 2, .bool false, .int .i64 4, .slice (some ⟨w5.heap.size, 0, none⟩) 1 1, .bool true, .int .i64 4, .slice (some ⟨w6.heap.size, 0, none⟩) 1 1, .bool true] 50)).setCell ⟨w.heap.size, 0, none⟩ (.slice (some ⟨w4.heap.size, 0, none⟩) 2 2)).setCell ⟨w.heap.size, 1, none⟩ (.slice (some ⟨w7.heap.size, 0, none⟩) 3 3)).heap[w6.heap.size]? = some (.cells #[.int .i64 0] 3 (0, 0)) from blk_far (blk_far (blk_alloc J3.out _) (by show w6.heap.size ≠ w.heap.size; have := HL0.out; have := HL1.out; have := HL2.out; have := HL3.out; have := HL4.out; have := HL5.out; have := HL6.out; have := HL7.out; omega) _) (by show w6.heap.size ≠ w.heap.size; have := HL0.out; have := HL1.out; have := HL2.out; have := HL3.out; have := HL4.out; have := HL5.out; have := HL6.out; have := HL7.out; omega) _)
  have KQ := Lib.hid (show (((w7.alloc (.cells #[.int .i64 5, .slice (some ⟨w4.heap.size + 1, 0, none⟩) 2 2, .bool false, .int .i64 4, .slice (some ⟨w5.heap.size, 0, none⟩) 1 1, .bool true, .int .i64 4, .slice (some ⟨w6.heap.size, 0, none⟩) 1 1, .bool true] 50)).setCell ⟨w.heap.size, 0, none⟩ (.slice (some ⟨w4.heap.size, 0, none⟩) 2 2)).setCell ⟨w.heap.size, 1, none⟩ (.slice (some ⟨w7.heap.size, 0, none⟩) 3 3)).heap[w7.heap.size]? = some (.cells #[.int .i64 5, .slice (some ⟨w4.heap.size + 1, 0, none⟩) 2 2, .bool false, .int .i64 4, .slice (some ⟨w5.heap.size, 0, none⟩) 1 1, .bool true, .int .i64 4, .slice (some ⟨w6.heap.size, 0, none⟩) 1 1, .bool true] 50 (0, 0)) from blk_far (blk_far m0 (by show w7.heap.size ≠ w.heap.size; have := HL0.out; have := HL1.out; have := HL2.out; have := HL3.out; have := HL4.out; have := HL5.out; have := HL6.out; have := HL7.out; omega) _) (by show w7.heap.size ≠ w.heap.size; have := HL0.out; have := HL1.out; have := HL2.out; have := HL3.out; have := HL4.out; have := HL5.out; have := HL6.out; have := HL7.out; omega) _)
  have FR := Lib.hid (show (((w7.alloc (.cells #[.int .i64 5, .slice (some ⟨w4.heap.size + 1, 0, none⟩) 2 2, .bool false, .int .i64 4, .slice (some ⟨w5.heap.size, 0, none⟩) 1 1, .bool true, .int .i64 4, .slice (some ⟨w6.heap.size, 0, none⟩) 1 1, .bool true] 50)).setCell ⟨w.heap.size, 0, none⟩ (.slice (some ⟨w4.heap.size, 0, none⟩) 2 2)).setCell ⟨w.heap.size, 1, none⟩ (.slice (some ⟨w7.heap.size, 0, none⟩) 3 3)).heap[w.heap.size]? = some (.cells #[.slice (some ⟨w4.heap.size, 0, none⟩) 2 2, .slice (some ⟨w7.heap.size, 0, none⟩) 3 3] 25 (0, 0)) from blk_set (blk_set (blk_alloc FR.out _) 0 _) 1 _)
  have HBE := Lib.hid (show Below w.heap.size w (((w7.alloc (.cells #[.int .i64 5, .slice (some ⟨w4.heap.size + 1, 0, none⟩) 2 2, .bool false, .int .i64 4, .slice (some ⟨w5.heap.size, 0, none⟩) 1 1, .bool true, .int .i64 4, .slice (some ⟨w6.heap.size, 0, none⟩) 1 1, .bool true] 50)).setCell ⟨w.heap.size, 0, none⟩ (.slice (some ⟨w4.heap.size, 0, none⟩) 2 2)).setCell ⟨w.heap.size, 1, none⟩ (.slice (some ⟨w7.heap.size, 0, none⟩) 3 3)) from ((HB.out.trans (m1.mono (below_size HB.out))).setCell (Nat.le_refl _) _).setCell (Nat.le_refl _) _)
  clear m0 m1 m2 HB e0 e1 e2 e3
  generalize (((w7.alloc (.cells #[.int .i64 5, .slice (some ⟨w4.heap.size + 1, 0, none⟩) 2 2, .bool false, .int .i64 4, .slice (some ⟨w5.heap.size, 0, none⟩) 1 1, .bool true, .int .i64 4, .slice (some ⟨w6.heap.size, 0, none⟩) 1 1, .bool true] 50)).setCell ⟨w.heap.size, 0, none⟩ (.slice (some ⟨w4.heap.size, 0, none⟩) 2 2)).setCell ⟨w.heap.size, 1, none⟩ (.slice (some ⟨w7.heap.size, 0, none⟩) 3 3)) = W1 at *
  refine bodyPost_ret (results_cell_row rfl _ _ w.heap.size 25 #[.slice (some ⟨w4.heap.size, 0, none⟩) 2 2, .slice (some ⟨w7.heap.size, 0, none⟩) 3 3] (0, 0) _ rfl FR.out Tryd.underlying25 rfl (by kernel_rfl)) rfl ⟨⟨w4.heap.size, 0, none⟩, ⟨w7.heap.size, 0, none⟩, rfl, fun WE hW => ?_, HBE.out⟩
  have K1 := Lib.hid ((hW _ (by have := HL0.out; have := HL1.out; have := HL2.out; have := HL3.out; have := HL4.out; have := HL5.out; have := HL6.out; have := HL7.out; omega) (blk_lt K1.out)).trans K1.out)
  have K2 := Lib.hid ((hW _ (by have := HL0.out; have := HL1.out; have := HL2.out; have := HL3.out; have := HL4.out; have := HL5.out; have := HL6.out; have := HL7.out; omega) (blk_lt K2.out)).trans K2.out)
  have KP := Lib.hid ((hW _ (by have := HL0.out; have := HL1.out; have := HL2.out; have := HL3.out; have := HL4.out; have := HL5.out; have := HL6.out; have := HL7.out; omega) (blk_lt KP.out)).trans KP.out)
  have J1 := Lib.hid ((hW _ (by have := HL0.out; have := HL1.out; have := HL2.out; have := HL3.out; have := HL4.out; have := HL5.out; have := HL6.out; have := HL7.out; omega) (blk_lt J1.out)).trans J1.out)
  have J2 := Lib.hid ((hW _ (by have := HL0.out; have := HL1.out; have := HL2.out; have := HL3.out; have := HL4.out; have := HL5.out; have := HL6.out; have := HL7.out; omega) (blk_lt J2.out)).trans J2.out)
  have J3 := Lib.hid ((hW _ (by have := HL0.out; have := HL1.out; have := HL2.out; have := HL3.out; have := HL4.out; have := HL5.out; have := HL6.out; have := HL7.out; omega) (blk_lt J3.out)).trans J3.out)
  have KQ := Lib.hid ((hW _ (by have := HL0.out; have := HL1.out; have := HL2.out; have := HL3.out; have := HL4.out; have := HL5.out; have := HL6.out; have := HL7.out; omega) (blk_lt KQ.out)).trans KQ.out)
  have CK1 := Lib.hid (show Kd.C k60 WE (some ⟨w1.heap.size, 0, none⟩) 1 [⟨3, 4⟩] from spans_C K1.out (by decide) (fun j hj => by obtain rfl : j = 0 := (by simp at hj; omega); all_goals exact ⟨rfl, rfl⟩))
  have CK2 := Lib.hid (show Kd.C k60 WE (some ⟨w3.heap.size, 0, none⟩) 1 [⟨6, 6⟩] from spans_C K2.out (by decide) (fun j hj => by obtain rfl : j = 0 := (by simp at hj; omega); all_goals exact ⟨rfl, rfl⟩))
  have CJ1 := Lib.hid (show Kd.C (Kd.int .i64) WE (some ⟨w4.heap.size + 1, 0, none⟩) 2 [0, 4] from ints_C J1.out (by decide) (fun j hj => by obtain rfl | rfl : j = 0 ∨ j = 1 := (by simp at hj; omega); all_goals rfl))
  have CJ2 := Lib.hid (show Kd.C (Kd.int .i64) WE (some ⟨w5.heap.size, 0, none⟩) 1 [1] from ints_C J2.out (by decide) (fun j hj => by obtain rfl : j = 0 := (by simp at hj; omega); all_goals rfl))
  have CJ3 := Lib.hid (show Kd.C (Kd.int .i64) WE (some ⟨w6.heap.size, 0, none⟩) 1 [0] from ints_C J3.out (by decide) (fun j hj => by obtain rfl : j = 0 := (by simp at hj; omega); all_goals rfl))
  constructor
  · refine woods_C (P := ownP) KP.out (by decide) (fun j hj => ?_)
    obtain rfl | rfl : j = 0 ∨ j = 1 := by simp [ownP] at hj; omega
    · exact ⟨_, 1, rfl, rfl, by decide, CK1.out⟩
    · exact ⟨_, 1, rfl, rfl, by decide, CK2.out⟩
  · refine shapes_C (P := ownQ) KQ.out (by decide) (fun j hj => ?_)
    obtain rfl | rfl | rfl : j = 0 ∨ j = 1 ∨ j = 2 := by simp [ownQ] at hj; omega
    · exact ⟨_, 2, rfl, rfl, rfl, by decide, CJ1.out⟩
    · exact ⟨_, 1, rfl, rfl, rfl, by decide, CJ2.out⟩
    · exact ⟨_, 1, rfl, rfl, rfl, by decide, CJ3.out⟩
set_option maxRecDepth 100000 in
set_option maxHeartbeats 2000000 in
theorem calls_hidden (w : World) : Calls Tryd.prog 58 #[] w fun e w' => ∃ PA QA, e = .returned (.agg #[.slice (some PA) 1 1, .slice (some QA) 2 2]) ∧ (∀ W2 : World, (∀ k, w.heap.size ≤ k → k < w'.heap.size → W2.heap[k]? = w'.heap[k]?) → Kd.C k48 W2 (some PA) 1 hidP ∧ Kd.C k50 W2 (some QA) 2 hidQ) ∧ Below w.heap.size w w' := by
  have hu := Tryd.underlying25
  go_enter Tryd.func58, Tryd.ntmps58
  go_upto_region 1 with (fail)
  obtain ⟨n0, n1, n2⟩ := new1 w (.cells #[.slice none 0 0, .slice none 0 0] 25)
  generalize w.alloc (.cells #[.slice none 0 0, .slice none 0 0] 25) = w0 at n0 n1 n2 ⊢
  have FR := Lib.hid n0; have HB := Lib.hid n1
  have HL0 := Lib.hid (show w.heap.size < w0.heap.size from blk_lt n0)
  clear n0 n1 n2
  go_wp2_with (first | (go_at_call 56; (with_reducible refine (calls_From 2 6 _).mono ?_); rintro e w1 ⟨rfl, hb⟩; have FR := Lib.hid (blk_below (g := w.heap.size) (o := .cells #[.slice none 0 0, .slice none 0 0] 25 (0, 0)) (FR.out) hb); have HB := Lib.hid (below_step (by repeat (first | exact HB.out | apply below_alloc)) hb); have HL1 := Lib.hid (show w0.heap.size < w1.heap.size ∨ w0.heap.size = w1.heap.size from Nat.lt_or_eq_of_le (Nat.le_trans (by simp <;> omega) (below_size hb))); clear hb) | (go_at_call 59; (with_reducible refine (calls_wood 9 (some ⟨w1.heap.size, 0, none⟩) 1 1 _).mono ?_); rintro e w2 ⟨rfl, hb⟩; have FR := Lib.hid (blk_below (g := w.heap.size) (o := .cells #[.slice none 0 0, .slice none 0 0] 25 (0, 0)) (blk_alloc (FR.out) _) hb); have K1 := Lib.hid (blk_below (g := w1.heap.size) (o := .cells #[.int .i64 2, .int .i64 6] 60 (0, 0)) (blk_new w1 (.cells #[.int .i64 2, .int .i64 6] 60)) hb); have HB := Lib.hid (below_step (by repeat (first | exact HB.out | apply below_alloc)) hb); have HL2 := Lib.hid (show w1.heap.size < w2.heap.size ∨ w1.heap.size = w2.heap.size from Nat.lt_or_eq_of_le (Nat.le_trans (by simp <;> omega) (below_size hb))); clear hb) | (go_at_call 97; (with_reducible refine (calls_shape 5 (some ⟨w2.heap.size + 1, 0, none⟩) 2 2 false _).mono ?_); rintro e w3 ⟨rfl, hb⟩; have FR := Lib.hid (blk_below (g := w.heap.size) (o := .cells #[.slice none 0 0, .slice none 0 0] 25 (0, 0)) (blk_alloc (blk_alloc (FR.out) _) _) hb); have K1 := Lib.hid (blk_below (g := w1.heap.size) (o := .cells #[.int .i64 2, .int .i64 6] 60 (0, 0)) (blk_alloc (blk_alloc (K1.out) _) _) hb); have KP := Lib.hid (blk_below (g := w2.heap.size) (o := .cells #[.int .i64 9, .slice (some ⟨w1.heap.size, 0, none⟩) 1 1] 48 (0, 0)) (blk_alloc (blk_new w2 (.cells #[.int .i64 9, .slice (some ⟨w1.heap.size, 0, none⟩) 1 1] 48)) _) hb); have J1 := Lib.hid (blk_below (g := w2.heap.size + 1) (o := .cells #[.int .i64 0, .int .i64 4] 3 (0, 0)) (by have h_ := blk_new (w2.alloc (.cells #[.int .i64 9, .slice (some ⟨w1.heap.size, 0, none⟩) 1 1] 48)) (.cells #[.int .i64 0, .int .i64 4] 3); simpa using h_) hb); have HB := Lib.hid (below_step (by repeat (first | exact HB.out | apply below_alloc)) hb); have HL3 := Lib.hid (show w2.heap.size < w3.heap.size ∨ w2.heap.size = w3.heap.size from Nat.lt_or_eq_of_le (Nat.le_trans (by simp <;> omega) (below_size hb))); clear hb) | (go_at_call 97; (with_reducible refine (calls_shape 4 (some ⟨w3.heap.size, 0, none⟩) 2 2 false _).mono ?_); rintro e w4 ⟨rfl, hb⟩; have FR := Lib.hid (blk_below (g := w.heap.size) (o := .cells #[.slice none 0 0, .slice none 0 0] 25 (0, 0)) (blk_alloc (FR.out) _) hb); have K1 := Lib.hid (blk_below (g := w1.heap.size) (o := .cells #[.int .i64 2, .int .i64 6] 60 (0, 0)) (blk_alloc (K1.out) _) hb); have KP := Lib.hid (blk_below (g := w2.heap.size) (o := .cells #[.int .i64 9, .slice (some ⟨w1.heap.size, 0, none⟩) 1 1] 48 (0, 0)) (blk_alloc (KP.out) _) hb); have J1 := Lib.hid (blk_below (g := w2.heap.size + 1) (o := .cells #[.int .i64 0, .int .i64 4] 3 (0, 0)) (blk_alloc (J1.out) _) hb); have J2 := Lib.hid (blk_below (g := w3.heap.size) (o := .cells #[.int .i64 0, .int .i64 3] 3 (0, 0)) (blk_new w3 (.cells #[.int .i64 0, .int .i64 3] 3)) hb); have HB := Lib.hid (below_step (by repeat (first | exact HB.out | apply below_alloc)) hb); have HL4 := Lib.hid (show w3.heap.size < w4.heap.size ∨ w3.heap.size = w4.heap.size from Nat.lt_or_eq_of_le (Nat.le_trans (by simp <;> omega) (below_size hb))); have e0 : (w4.alloc (.cells #[.int .i64 5, .slice (some ⟨w2.heap.size + 1, 0, none⟩) 2 2, .bool false, .int .i64 4, .slice (some ⟨w3.heap.size, 0, none⟩) 2 2, .bool false] 50)).cell? ⟨w.heap.size, 0, none⟩ = some (.slice none 0 0) := (blk_cell (blk_alloc FR.out _) 0); have e1 : (w4.alloc (.cells #[.int .i64 5, .slice (some ⟨w2.heap.size + 1, 0, none⟩) 2 2, .bool false, .int .i64 4, .slice (some ⟨w3.heap.size, 0, none⟩) 2 2, .bool false] 50)).cell? ⟨w.heap.size, 1, none⟩ = some (.slice none 0 0) := (blk_cell (blk_alloc FR.out _) 1); have e2 : (w4.alloc (.cells #[.int .i64 5, .slice (some ⟨w2.heap.size + 1, 0, none⟩) 2 2, .bool false, .int .i64 4, .slice (some ⟨w3.heap.size, 0, none⟩) 2 2, .bool false] 50)).frozen? ⟨w.heap.size, 0, none⟩ = false := (blk_frozen (blk_alloc FR.out _) 0); have e3 : (w4.alloc (.cells #[.int .i64 5, .slice (some ⟨w2.heap.size + 1, 0, none⟩) 2 2, .bool false, .int .i64 4, .slice (some ⟨w3.heap.size, 0, none⟩) 2 2, .bool false] 50)).frozen? ⟨w.heap.size, 1, none⟩ = false := (blk_frozen (blk_alloc FR.out _) 1); clear hb))
  obtain ⟨m0, m1, m2⟩ := new1 w4 (.cells #[.int .i64 5, .slice (some ⟨w2.heap.size + 1, 0, none⟩) 2 2, .bool false, .int .i64 4, .slice (some ⟨w3.heap.size, 0, none⟩) 2 2, .bool false] 50)
  have K1 := Lib.hid (show (((w4.alloc (.cells #[.int .i64 5, .slice (some ⟨w2.heap.size + 1, 0, none⟩) 2 2, .bool false, .int .i64 4, .slice (some ⟨w3.heap.size, 0, none⟩) 2 2, .bool false] 50)).setCell ⟨w.heap.size, 0, none⟩ (.slice (some ⟨w2.heap.size, 0, none⟩) 1 1)).setCell ⟨w.heap.size, 1, none⟩ (.slice (some ⟨w4.heap.size, 0, none⟩) 2 2)).heap[w1.heap.size]? = some (.cells #[.int .i64 2, .int .i64 6] 60 (0, 0)) from blk_far (blk_far (blk_alloc K1.out _) (by show w1.heap.size ≠ w.heap.size; have := HL0.out; have := HL1.out; have := HL2.out; have := HL3.out; have := HL4.out; omega) _) (by show w1.heap.size ≠ w.heap.size; have := HL0.out; have := HL1.out; have := HL2.out; have := HL3.out; have := HL4.out; omega) _)
  have KP := Lib.hid (show (((w4.alloc (.cells #[.int .i64 5, .slice (some ⟨w2.heap.size + 1, 0, none⟩) 2 2, .bool false, .int .i64 4, .slice (some ⟨w3.heap.size, 0, none⟩) 2 2, .bool false] 50)).setCell ⟨w.heap.size, 0, none⟩ (.slice (some ⟨w2.heap.size, 0, none⟩) 1 1)).setCell ⟨w.heap.size, 1, none⟩ (.slice (some ⟨w4.heap.size, 0, none⟩) 2 2)).heap[w2.heap.size]? = some (.cells #[.int .i64 9, .slice (some ⟨w1.heap.size, 0, none⟩) 1 1] 48 (0, 0)) from blk_far (blk_far (blk_alloc KP.out _) (by show w2.heap.size ≠ w.heap.size; have := HL0.out; have := HL1.out; have := HL2.out; have := HL3.out; have := HL4.out; omega) _) (by show w2.heap.size ≠ w.heap.size; have := HL0.out; have := HL1.out; have := HL2.out; have := HL3.out; have := HL4.out; omega) _)
  have J1 := Lib.hid (show (((w4.alloc (.cells #[.int .i64 5, .slice (some ⟨w2.heap.size + 1, 0, none⟩) 2 2, .bool false, .int .i64 4, .slice (some ⟨w3.heap.size, 0, none⟩) 2 2, .bool false] 50)).setCell ⟨w.heap.size, 0, none⟩ (.slice (some ⟨w2.heap.size, 0, none⟩) 1 1)).setCell ⟨w.heap.size, 1, none⟩ (.slice (some ⟨w4.heap.size, 0, none⟩) 2 2)).heap[w2.heap.size + 1]? = some (.cells #[.int .i64 0, .int .i64 4] 3 (0, 0)) from blk_far (blk_far (blk_alloc J1.out _) (by show w2.heap.size + 1 ≠ w.heap.size; have := HL0.out; have := HL1.out; have := HL2.out; have := HL3.out; have := HL4.out; omega) _) (by show w2.heap.size + 1 ≠ w.heap.size; have := HL0.out; have := HL1.out; have := HL2.out; have := HL3.out; have := HL4.out; omega) _)
  have J2 := Lib.hid (show (((w4.alloc (.cells #[.int .i64 5, .slice (some ⟨w2.heap.size + 1, 0, none⟩) 2 2, .bool false, .int .i64 4, .slice (some ⟨w3.heap.size, 0, none⟩) 2 2, .bool false] 50)).setCell ⟨w.heap.size, 0, none⟩ (.slice (some ⟨w2.heap.size, 0, none⟩) 1 1)).setCell ⟨w.heap.size, 1, none⟩ (.slice (some ⟨w4.heap.size, 0, none⟩) 2 2)).heap[w3.heap.size]? = some (.cells #[.int .i64 0, .int .i64 3] 3 (0, 0)) from blk_far (blk_far (blk_alloc J2.out _) (by show w3.heap.size ≠ w.heap.size; have := HL0.out; have := HL1.out; have := HL2.out; have := HL3.out; have := HL4.out; omega) _) (by show w3.heap.size ≠ w.heap.size; have := HL0.out; have := HL1.out; have := HL2.out; have := HL3.out; have := HL4.out; omega) _)
  have KQ := Lib.hid (show (((w4.alloc (.cells #[.int .i64 5, .slice (some ⟨w2.heap.size + 1, 0, none⟩) 2 2, .bool false, .int .i64 4, .slice (some ⟨w3.heap.size, 0, none⟩) 2 2, .bool false] 50)).setCell ⟨w.heap.size, 0, none⟩ (.slice (some ⟨w2.heap.size, 0, none⟩) 1 1)).setCell ⟨w.heap.size, 1, none⟩ (.slice (some ⟨w4.heap.size, 0, none⟩) 2 2)).heap[w4.heap.size]? = some (.cells #[.int .i64 5, .slice (some ⟨w2.heap.size + 1, 0, none⟩) 2 2, .bool false, .int .i64 4, .slice (some ⟨w3.heap.size, 0, none⟩) 2 2, .bool false] 50 (0, 0)) from blk_far (blk_far m0 (by show w4.heap.size ≠ w.heap.size; have := HL0.out; have := HL1.out; have := HL2.out; have := HL3.out; have := HL4.out; omega) _) (by show w4.heap.size ≠ w.heap.size; have := HL0.out; have := HL1.out; have := HL2.out; have := HL3.out; have := HL4.out; omega) _)
  have FR := Lib.hid (show (((w4.alloc (.cells #[.int .i64 5, .slice (some ⟨w2.heap.size + 1, 0, none⟩) 2 2, .bool false, .int .i64 4, .slice (some ⟨w3.heap.size, 0, none⟩) 2 2, .bool false] 50)).setCell ⟨w.heap.size, 0, none⟩ (.slice (some ⟨w2.heap.size, 0, none⟩) 1 1)).setCell ⟨w.heap.size, 1, none⟩ (.slice (some ⟨w4.heap.size, 0, none⟩) 2 2)).heap[w.heap.size]? = some (.cells #[.slice (some ⟨w2.heap.size, 0, none⟩) 1 1, .slice (some ⟨w4.heap.size, 0, none⟩) 2 2] 25 (0, 0)) from blk_set (blk_set (blk_alloc FR.out _) 0 _) 1 _)
  have HBE := Lib.hid (show Below w.heap.size w (((w4.alloc (.cells #[.int .i64 5, .slice (some ⟨w2.heap.size + 1, 0, none⟩) 2 2, .bool false, .int .i64 4, .slice (some ⟨w3.heap.size, 0, none⟩) 2 2, .bool false] 50)).setCell ⟨w.heap.size, 0, none⟩ (.slice (some ⟨w2.heap.size, 0, none⟩) 1 1)).setCell ⟨w.heap.size, 1, none⟩ (.slice (some ⟨w4.heap.size, 0, none⟩) 2 2)) from ((HB.out.trans (m1.mono (below_size HB.out))).setCell (Nat.le_refl _) _).setCell (Nat.le_refl _) _)
  clear m0 m1 m2 HB e0 e1 e2 e3
  generalize (((w4.alloc (.cells #[.int .i64 5, .slice (some ⟨w2.heap.size + 1, 0, none⟩) 2 2, .bool false, .int .i64 4, .slice (some ⟨w3.heap.size, 0, none⟩) 2 2, .bool false] 50)).setCell ⟨w.heap.size, 0, none⟩ (.slice (some ⟨w2.heap.size, 0, none⟩) 1 1)).setCell ⟨w.heap.size, 1, none⟩ (.slice (some ⟨w4.heap.size, 0, none⟩) 2 2)) = W1 at *
  refine bodyPost_ret (results_cell_row rfl _ _ w.heap.size 25 #[.slice (some ⟨w2.heap.size, 0, none⟩) 1 1, .slice (some ⟨w4.heap.size, 0, none⟩) 2 2] (0, 0) _ rfl FR.out Tryd.underlying25 rfl (by kernel_rfl)) rfl ⟨⟨w2.heap.size, 0, none⟩, ⟨w4.heap.size, 0, none⟩, rfl, fun WE hW => ?_, HBE.out⟩
  have K1 := Lib.hid ((hW _ (by have := HL0.out; have := HL1.out; have := HL2.out; have := HL3.out; have := HL4.out; omega) (blk_lt K1.out)).trans K1.out)
  have KP := Lib.hid ((hW _ (by have := HL0.out; have := HL1.out; have := HL2.out; have := HL3.out; have := HL4.out; omega) (blk_lt KP.out)).trans KP.out)
  have J1 := Lib.hid ((hW _ (by have := HL0.out; have := HL1.out; have := HL2.out; have := HL3.out; have := HL4.out; omega) (blk_lt J1.out)).trans J1.out)
  have J2 := Lib.hid ((hW _ (by have := HL0.out; have := HL1.out; have := HL2.out; have := HL3.out; have := HL4.out; omega) (blk_lt J2.out)).trans J2.out)
  have KQ := Lib.hid ((hW _ (by have := HL0.out; have := HL1.out; have := HL2.out; have := HL3.out; have := HL4.out; omega) (blk_lt KQ.out)).trans KQ.out)
  have CK1 := Lib.hid (show Kd.C k60 WE (some ⟨w1.heap.size, 0, none⟩) 1 [⟨2, 6⟩] from spans_C K1.out (by decide) (fun j hj => by obtain rfl : j = 0 := (by simp at hj; omega); all_goals exact ⟨rfl, rfl⟩))
  have CJ1 := Lib.hid (show Kd.C (Kd.int .i64) WE (some ⟨w2.heap.size + 1, 0, none⟩) 2 [0, 4] from ints_C J1.out (by decide) (fun j hj => by obtain rfl | rfl : j = 0 ∨ j = 1 := (by simp at hj; omega); all_goals rfl))
  have CJ2 := Lib.hid (show Kd.C (Kd.int .i64) WE (some ⟨w3.heap.size, 0, none⟩) 2 [0, 3] from ints_C J2.out (by decide) (fun j hj => by obtain rfl | rfl : j = 0 ∨ j = 1 := (by simp at hj; omega); all_goals rfl))
  constructor
  · refine woods_C (P := hidP) KP.out (by decide) (fun j hj => ?_)
    obtain rfl : j = 0 := by simp [hidP] at hj; omega
    exact ⟨_, 1, rfl, rfl, by decide, CK1.out⟩
  · refine shapes_C (P := hidQ) KQ.out (by decide) (fun j hj => ?_)
    obtain rfl | rfl : j = 0 ∨ j = 1 := by simp [hidQ] at hj; omega
    · exact ⟨_, 2, rfl, rfl, rfl, by decide, CJ1.out⟩
    · exact ⟨_, 2, rfl, rfl, rfl, by decide, CJ2.out⟩
def aloP : List S48 := [⟨8, [⟨6, 6⟩]⟩]
set_option maxRecDepth 100000 in
theorem tail_own (ad : Addr) : (∀ W, (Instr.sliceAt 22 (.slice (some ad) 2 2) (some (.int .i64 1)) none none).run Tryd.prog W = .ok (.slice (some (ad.add (1 * 2))) 1 1) W) ∧
    (∀ W, Kd.C k48 W (some ad) 2 ownP → Kd.C k48 W (some (ad.add (1 * 2))) 1 aloP) := by
  have hu : Tryd.prog.underlying 22 = some (.slice (Tryd.prog.elem 22)) := by kernel_rfl
  have he : Tryd.prog.elem 22 = 48 := by kernel_rfl
  obtain ⟨i0, hi0⟩ : ∃ i, Tryd.prog.info? 48 = some i := ⟨_, rfl⟩
  have hs : ∀ W, (sizeOf 48).run Tryd.prog W = .ok 2 W := fun W => by rw [run_sizeOf W hi0, show Tryd.prog.cellsOf 48 = 2 from by kernel_rfl]
  refine ⟨fun W => ?_, fun W hC => ?_⟩
  · rw [run_sliceAt_slice W 22 _ _ _ _ hu, run_slice_l W 22 (some ad) 2 2 hu .i64 1 (by omega) (by omega), he, hs]
    simp only [Result.andThen_ok, sliced]
    rfl
  · exact Kd.C_drop (m := 1) (c := 2) hC (by decide) (by decide)
set_option maxRecDepth 100000 in
theorem calls_alone (w : World) : Calls Tryd.prog 57 #[] w fun e w' => ∃ PA QA, e = .returned (.agg #[.slice (some PA) 1 1, .slice (some QA) 3 3]) ∧ Kd.C k48 w' (some PA) 1 aloP ∧ Kd.C k50 w' (some QA) 3 ownQ ∧ Below w.heap.size w w' := by
  have hu := Tryd.underlying25
  obtain ⟨n0, n1, n2⟩ := new1 w (.cells #[.slice none 0 0, .slice none 0 0] 25)
  have FR := Lib.hid n0; have HB := Lib.hid n1
  clear n0 n1 n2
  go_enter Tryd.func57, Tryd.ntmps57
  go_upto_region 3 with (go_at_call 54; (with_reducible refine (calls_own _).mono ?_); rintro e w1 ⟨PA, QA, rfl, hPQ, hb⟩; have HPQ := Lib.hid hPQ; have FR := Lib.hid (below_far FR.out hb); have HB := Lib.hid (HB.out.trans (hb.mono (below_size HB.out))); have hsl := (tail_own PA).1; clear hPQ hb)
  obtain ⟨m0, m1, m2⟩ := new1 w1 (.cells #[.slice (some ⟨PA.block, PA.off + 2, none⟩) 1 1, .slice (some QA) 3 3] 25)
  have FR := Lib.hid (blk_alloc FR.out (.cells #[.slice (some ⟨PA.block, PA.off + 2, none⟩) 1 1, .slice (some QA) 3 3] 25))
  generalize w1.alloc (.cells #[.slice (some ⟨PA.block, PA.off + 2, none⟩) 1 1, .slice (some QA) 3 3] 25) = W at m0 m1 m2 FR ⊢
  have HB := Lib.hid (HB.out.trans (m1.mono (below_size HB.out)))
  have HPQ2 := Lib.hid (show Kd.C k48 ((W.setCell ⟨w.heap.size, 0, none⟩ (.slice (some ⟨PA.block, PA.off + 2, none⟩) 1 1)).setCell ⟨w.heap.size, 1, none⟩ (.slice (some QA) 3 3)) (some PA) 2 ownP ∧ Kd.C k50 ((W.setCell ⟨w.heap.size, 0, none⟩ (.slice (some ⟨PA.block, PA.off + 2, none⟩) 1 1)).setCell ⟨w.heap.size, 1, none⟩ (.slice (some QA) 3 3)) (some QA) 3 ownQ from HPQ.out _ (fun k hk hlt => by
    have hk : w.heap.size + 1 ≤ k := by simpa using hk
    rw [Below.heap_setCell _ ⟨w.heap.size, 1, none⟩ _ k (by show k ≠ w.heap.size; omega), Below.heap_setCell _ ⟨w.heap.size, 0, none⟩ _ k (by show k ≠ w.heap.size; omega)]
    exact m1.block k hlt))
  obtain ⟨e0, e1, e2, e3⟩ : W.cell? ⟨w.heap.size, 0, none⟩ = some (.slice none 0 0) ∧ W.cell? ⟨w.heap.size, 1, none⟩ = some (.slice none 0 0) ∧ W.frozen? ⟨w.heap.size, 0, none⟩ = false ∧ W.frozen? ⟨w.heap.size, 1, none⟩ = false := ⟨blk_cell FR.out 0, blk_cell FR.out 1, blk_frozen FR.out 0, blk_frozen FR.out 1⟩
  obtain ⟨d0, d1⟩ : W.cell? ⟨w1.heap.size, 0, none⟩ = some (.slice (some ⟨PA.block, PA.off + 2, none⟩) 1 1) ∧ W.cell? ⟨w1.heap.size, 1, none⟩ = some (.slice (some QA) 3 3) := ⟨blk_cell m0 0, blk_cell m0 1⟩
  go_wp2_with fail
  have HF := Lib.hid (show ((W.setCell ⟨w.heap.size, 0, none⟩ (.slice (some ⟨PA.block, PA.off + 2, none⟩) 1 1)).setCell ⟨w.heap.size, 1, none⟩ (.slice (some QA) 3 3)).heap[w.heap.size]? = some (.cells #[.slice (some ⟨PA.block, PA.off + 2, none⟩) 1 1, .slice (some QA) 3 3] 25 (0, 0)) from blk_set (blk_set FR.out 0 _) 1 _)
  refine bodyPost_ret (results_cell_row rfl _ _ w.heap.size 25 #[.slice (some ⟨PA.block, PA.off + 2, none⟩) 1 1, .slice (some QA) 3 3] (0, 0) _ rfl HF.out Tryd.underlying25 rfl (by kernel_rfl)) rfl ⟨_, QA, rfl, ?_, ?_, (HB.out.setCell (Nat.le_refl _) _).setCell (Nat.le_refl _) _⟩
  · exact (tail_own PA).2 _ HPQ2.out.1
  · exact HPQ2.out.2
end Go.Proofs.YtekjlpldooihhaaDoorK
namespace Go.Proofs.YtekjlpldooihhaaDoor.PS
open Go.Proofs.YtekjlpldooihhaaDoorSh
open Go.RowKit Go.Proofs.YtekjlpldooihhaaDoorW.PrintWords Go.Proofs.YtekjlpldooihhaaDoorW.PrintLast Go.Proofs.YtekjlpldooihhaaDoorW.PrintMore
attribute [local go_sem] max2_int min2_int max_two min_two max_three min_three max_four min_four
set_option linter.unusedVariables false
set_option linter.unusedSimpArgs false
def errW : Option Int → Value
 | none => .nilIface
 | some c => .iface 0 (.int .i64 c)
theorem errW_none : errW none = .nilIface := rfl
theorem errW_some (c : Int) : errW (some c) = .iface 0 (.int .i64 c) := rfl
def skewbaldref00_Equal.l0 : Nat → List Int → List Int → Bool → Int → Option (Bool)
 | 0, _, _, _, _ => none
 | k + 1, x0, x1, x5, x6 => if x5 = true then (if x6 < (x0.length : Int) then (if 0 ≤ x6 then (if x6 < (x1.length : Int) then (skewbaldref00_Equal.l0 k x0 x1 ((rd x0 x6) == (rd x1 x6)) (wrap64 (x6 + 1))) else (none)) else (none)) else (some x5)) else (some x5)
def skewbaldref00_Equal.f (k : Nat) (l0 : List Int) (l1 : List Int) : Option (Bool) := skewbaldref00_Equal.l0 k l0 l1 ((l0.length : Int) == (l1.length : Int)) 0
set_option maxHeartbeats 8000000 in
set_option maxRecDepth 100000 in
theorem skewbaldref00_Equal.calls (k : Nat) (A0 : Option Addr) (c0 : Nat) (l0 : List Int) (A1 : Option Addr) (c1 : Nat) (l1 : List Int) (r : Bool) (w : World) (hr0 : Kd.C (Kd.int .i64) w A0 l0.length l0) (hc0 : l0.length ≤ c0) (hr1 : Kd.C (Kd.int .i64) w A1 l1.length l1) (hc1 : l1.length ≤ c1) (h : skewbaldref00_Equal.f k l0 l1 = some r) :
  Calls Tryd.prog 22 #[.slice A0 l0.length c0, .slice A1 l1.length c1] w fun e w' => e = .returned (.bool r) ∧ Drawn0 w w' := by
 have HR0 := Aside0.mk hr0; have HC0 := Aside0.mk hc0; clear hr0 hc0; have HR1 := Aside0.mk hr1; have HC1 := Aside0.mk hc1; clear hr1 hc1
 have H : (skewbaldref00_Equal.l0 k l0 l1 ((l0.length : Int) == (l1.length : Int)) 0) = some r := h
 clear h; have H' := Aside0.mk H; clear H
 go_enter Tryd.func22, Tryd.ntmps22
 go_wp2
 repeat (go_quiet (fail); try go_wp2)
 go_loopg [5, 6] k (fun kq v5 v6 w' => ∃ (x5_1 : Bool) (x6_1 : Int), v5 = .bool x5_1 ∧ v6 = .int .i64 x6_1 ∧ Aside0 (skewbaldref00_Equal.l0 kq l0 l1 x5_1 x6_1 = some r) ∧ Aside0 (kq ≤ k) ∧ Drawn0 w w')
 case atStart => exact ⟨(((l0.length : Int) == (l1.length : Int))), (0), sm, sm, H', ⟨Nat.le_refl _⟩, by repeat (first | exact Drawn0.refl _ | apply Drawn0.step)⟩
 case round =>
  clear H'; (try clear c1); (try clear c2); (try clear p2); obtain ⟨x5_1, x6_1, rfl, rfl, HA, HK1, ⟨m1, rfl⟩⟩ := hrel
  cases gk with
  | zero => exact absurd HA.out (by simp [skewbaldref00_Equal.l0])
  | succ k1 =>
   have H := HA.out; clear HA
   simp only [skewbaldref00_Equal.l0] at H
   by_cases c3 : x5_1 = true
   ·subst c3; rw [if_pos rfl] at H
    by_cases c4 : x6_1 < (l0.length : Int)
    ·rw [if_pos c4] at H; have c4b0 := decide_eq_true c4; clear c4
     by_cases c5 : 0 ≤ x6_1
     ·rw [if_pos c5] at H; have c5b0 := decide_eq_true c5; clear c5
      by_cases c6 : x6_1 < (l1.length : Int)
      ·rw [if_pos c6] at H; have c6b0 := decide_eq_true c6; clear c6; have H' := Aside0.mk H; clear H
       have p101 : 0 ≤ (x6_1 : Int) := od
       have q101 : x6_1 < (l0.length : Int) := od
       obtain ⟨ad101, e101, hx101_0⟩ := Kd.at_int HR0.out x6_1 p101 q101
       cases e101
       replace p101 := eq_true p101; replace q101 := eq_true q101
       have p102 : 0 ≤ (x6_1 : Int) := od
       have q102 : x6_1 < (l1.length : Int) := od
       obtain ⟨ad102, e102, hx102_0⟩ := Kd.at_int HR1.out x6_1 p102 q102
       cases e102
       replace p102 := eq_true p102; replace q102 := eq_true q102
       go_wp2
       repeat (go_quiet (fail); try go_wp2)
       go_roundg k1
       case measure => have := HK1.out; omega
       case rel => exact ⟨(((rd l0 x6_1) == (rd l1 x6_1))), (wrap64 (x6_1 + 1)), sm, sm, H', ⟨lo HK1⟩, by repeat (first | exact Drawn0.refl _ | apply Drawn0.step)⟩
      ·rw [if_neg c6] at H
       exact absurd H (by simp)
     ·rw [if_neg c5] at H
      exact absurd H (by simp)
    ·rw [if_neg c4] at H
     have c4b0 : decide (x6_1 < (l0.length : Int)) = false := decide_eq_false c4
     clear c4; obtain rfl := Option.some.inj H
     go_wp2
     repeat (go_quiet (fail); try go_wp2)
     go_ret
     exact ⟨sm, by repeat (first | exact Drawn0.refl _ | apply Drawn0.step)⟩
   ·replace c3 := Bool.eq_false_iff.mpr c3; subst c3
    rw [if_neg (show ¬ (false = true) by decide)] at H
    obtain rfl := Option.some.inj H
    go_wp2
    repeat (go_quiet (fail); try go_wp2)
    go_ret
    exact ⟨sm, by repeat (first | exact Drawn0.refl _ | apply Drawn0.step)⟩
end Go.Proofs.YtekjlpldooihhaaDoor.PS
namespace Go.Proofs.YtekjlpldooihhaaDoorK
open Go.RowKit Go.Proofs.YtekjlpldooihhaaDoorW.PrintWords Go.Proofs.YtekjlpldooihhaaDoorW.PrintLast Go.Proofs.YtekjlpldooihhaaDoorW.PrintMore Go.Proofs.YtekjlpldooihhaaDoorH Go.Proofs.YtekjlpldooihhaaDoorEv Go.Proofs.YtekjlpldooihhaaDoorP
open Go.Proofs.YtekjlpldooihhaaDoor.PA (S48 S50 k48 k50)
open Go.Proofs.YtekjlpldooihhaaDoor.PS (skewbaldref00_Equal.l0 skewbaldref00_Equal.f skewbaldref00_Equal.calls)
set_option linter.unusedVariables false
set_option linter.unusedSimpArgs false
theorem Equal_l0 (x y : List Int) (hxy : x.length = y.length) (hs : x.length < 9223372036854775808) : ∀ (d j : Nat) (b : Bool), j + d = x.length →
    Evt (fun k => skewbaldref00_Equal.l0 k x y b (j : Int)) (b && decide (x.drop j = y.drop j))
  | d, j, false, hj => by
    refine Evt.succ ?_
    simp only [skewbaldref00_Equal.l0]
    exact Evt.neg (by simp) (by simpa using Evt.pure false)
  | 0, j, true, hj => by
    refine Evt.succ ?_
    simp only [skewbaldref00_Equal.l0]
    rw [List.drop_eq_nil_of_le (by omega), List.drop_eq_nil_of_le (by omega)]
    exact Evt.pos (by first | rfl | trivial) (Evt.neg (by omega) (by simpa using Evt.pure true))
  | d + 1, j, true, hj => by
    refine Evt.succ ?_
    simp only [skewbaldref00_Equal.l0]
    have h1 : x.drop j = x[j] :: x.drop (j + 1) := List.drop_eq_getElem_cons (by omega)
    have h2 : y.drop j = y[j] :: y.drop (j + 1) := List.drop_eq_getElem_cons (by omega)
    have g1 : rd x (j : Int) = x[j] := by simp [rd, show j < x.length by omega]
    have g2 : rd y (j : Int) = y[j] := by simp [rd, show j < y.length by omega]
    refine Evt.pos (by first | rfl | trivial) (Evt.pos (by omega) (Evt.pos (by omega) (Evt.pos (by omega) ?_)))
    rw [g1, g2, h1, h2, w64 j (by omega)]
    refine (Equal_l0 x y hxy hs d (j + 1) _ (by omega)).of_eq ?_
    rw [Bool.eq_iff_iff]
    simp only [Bool.and_eq_true, beq_iff_eq, decide_eq_true_eq, List.cons.injEq, Bool.true_and]
theorem Equal_f (x y : List Int) (hs : x.length < 9223372036854775808) : Evt (fun k => skewbaldref00_Equal.f k x y) (decide (x = y)) := by
  unfold skewbaldref00_Equal.f
  by_cases h : x.length = y.length
  · have hb : ((x.length : Int) == (y.length : Int)) = true := by simp [h]
    rw [hb]
    refine (Equal_l0 x y h hs x.length 0 true (by omega)).of_eq ?_
    simp
  · have hb : ((x.length : Int) == (y.length : Int)) = false := by simp; omega
    rw [hb]
    refine Evt.succ ?_
    simp only [skewbaldref00_Equal.l0]
    refine Evt.neg (by simp) ?_
    have : decide (x = y) = false := decide_eq_false (fun e => h (by rw [e]))
    rw [this]
    exact Evt.pure _
theorem calls_Equal (A : Option Addr) (n c : Nat) (l : List Int) (B : Option Addr) (n2 d : Nat) (m : List Int) (b : Bool) (hn : l.length = n) (hn2 : m.length = n2) (hb : decide (l = m) = b) (w : World) (hr : Kd.C (Kd.int .i64) w A n l) (hc : n ≤ c) (hr1 : Kd.C (Kd.int .i64) w B n2 m) (hc1 : n2 ≤ d) :
    Calls Tryd.prog 22 #[.slice A n c, .slice B n2 d] w fun e w' => e = .returned (.bool b) ∧ Below w.heap.size w w' := by
  subst hn hn2 hb
  obtain ⟨k, hk⟩ := (Equal_f l m (by have := hr.2.1; omega)).get
  exact (skewbaldref00_Equal.calls k A c l B d m _ w hr hc hr1 hc1 hk).mono fun e w' h => ⟨h.1, by first | exact h.2 | exact h.2.below⟩
theorem own_can : canP ownP ownQ 0 0 4 = (1, 0) := by decide +kernel
theorem own_spots : spotsP ownP ownQ 0 0 = ([1, 2, 5, 6, 7], 0) := by decide +kernel
theorem own_lay : layP ownP ownQ 0 [0, 1] = ([1, 6], 0) := by decide +kernel
theorem own_fewest : fewestP ownP ownQ = ([0, 1], 0) := by decide +kernel
theorem alo_most : mostP aloP ownQ = ([1, 2], 0) := by decide +kernel
theorem alo_lacks : lacksP aloP ownQ = (1, 0) := by decide +kernel
theorem hid_look : lookP hidP hidQ = (0, 0, 0) := by decide +kernel
theorem V_told {w w' : World} {ok : Nat → Prop} {v : Value} {xs : List Int} {n : Nat} (h : Kd.V (Kd.int .i64) 3 w' w.heap.size ok v xs) (hn : xs.length = n) : ∃ A c, v = .slice A n c ∧ n ≤ c ∧ Kd.C (Kd.int .i64) w' A n xs := by
  subst hn
  obtain ⟨A, c, h1, h2, h3⟩ := h
  exact ⟨A, c, h1, h2, Kd.F_now h3⟩
theorem at_Can (PA QA : Addr) (W : World) (hP : Kd.C k48 W (some PA) 2 ownP) (hQ : Kd.C k50 W (some QA) 3 ownQ) (hG : Glob W) :
    Calls Tryd.prog 16 #[.agg #[.slice (some PA) 2 2, .slice (some QA) 3 3], .int .i64 0, .int .i64 0, .int .i64 4] W fun e w' => e = .returned (.tuple #[.int .i64 1, .int .i64 0]) ∧ Below W.heap.size W w' := by
  have h := calls_Can (some PA) 2 ownP (some QA) 3 ownQ 0 0 4 W hP (by decide) hQ (by decide) hG
  rw [own_can] at h
  exact h
theorem at_Spots (PA QA : Addr) (W : World) (hP : Kd.C k48 W (some PA) 2 ownP) (hQ : Kd.C k50 W (some QA) 3 ownQ) (hG : Glob W) :
    Calls Tryd.prog 20 #[.agg #[.slice (some PA) 2 2, .slice (some QA) 3 3], .int .i64 0, .int .i64 0] W fun e w' => ∃ A c, e = .returned (.tuple #[.slice A 5 c, .int .i64 0]) ∧ 5 ≤ c ∧ Kd.C (Kd.int .i64) w' A 5 [1, 2, 5, 6, 7] ∧ Below W.heap.size W w' := by
  have h := calls_Spots (some PA) 2 ownP (some QA) 3 ownQ 0 0 W hP (by decide) hQ (by decide) hG
  rw [own_spots] at h
  refine h.mono fun e w' h => ?_
  obtain ⟨v, rfl, h1, h2⟩ := h
  obtain ⟨A, c, rfl, h3, h4⟩ := V_told (n := 5) h1 rfl
  exact ⟨A, c, rfl, h3, h4, h2⟩
theorem at_Lay (PA QA : Addr) (B : Addr) (W : World) (hP : Kd.C k48 W (some PA) 2 ownP) (hQ : Kd.C k50 W (some QA) 3 ownQ) (hL : Kd.C (Kd.int .i64) W (some B) 2 [0, 1]) (hG : Glob W) :
    Calls Tryd.prog 24 #[.agg #[.slice (some PA) 2 2, .slice (some QA) 3 3], .int .i64 0, .slice (some B) 2 2] W fun e w' => ∃ A c, e = .returned (.tuple #[.slice A 2 c, .int .i64 0]) ∧ 2 ≤ c ∧ Kd.C (Kd.int .i64) w' A 2 [1, 6] ∧ Below W.heap.size W w' := by
  have h := calls_Lay (some PA) 2 ownP (some QA) 3 ownQ 0 (some B) 2 [0, 1] W hP (by decide) hQ (by decide) hL (by decide) hG
  rw [own_lay] at h
  refine h.mono fun e w' h => ?_
  obtain ⟨v, rfl, h1, h2⟩ := h
  obtain ⟨A, c, rfl, h3, h4⟩ := V_told (n := 2) h1 rfl
  exact ⟨A, c, rfl, h3, h4, h2⟩
theorem at_Fewest (PA QA : Addr) (W : World) (hP : Kd.C k48 W (some PA) 2 ownP) (hQ : Kd.C k50 W (some QA) 3 ownQ) (hG : Glob W) :
    Calls Tryd.prog 28 #[.agg #[.slice (some PA) 2 2, .slice (some QA) 3 3]] W fun e w' => ∃ A c, e = .returned (.tuple #[.slice A 2 c, .int .i64 0]) ∧ 2 ≤ c ∧ Kd.C (Kd.int .i64) w' A 2 [0, 1] ∧ Below W.heap.size W w' := by
  have h := calls_Fewest (some PA) 2 ownP (some QA) 3 ownQ  W hP (by decide) hQ (by decide) hG
  rw [own_fewest] at h
  refine h.mono fun e w' h => ?_
  obtain ⟨v, rfl, h1, h2⟩ := h
  obtain ⟨A, c, rfl, h3, h4⟩ := V_told (n := 2) h1 rfl
  exact ⟨A, c, rfl, h3, h4, h2⟩
theorem at_Most (PA QA : Addr) (W : World) (hP : Kd.C k48 W (some PA) 1 aloP) (hQ : Kd.C k50 W (some QA) 3 ownQ) (hG : Glob W) :
    Calls Tryd.prog 26 #[.agg #[.slice (some PA) 1 1, .slice (some QA) 3 3]] W fun e w' => ∃ A c, e = .returned (.tuple #[.slice A 2 c, .int .i64 0]) ∧ 2 ≤ c ∧ Kd.C (Kd.int .i64) w' A 2 [1, 2] ∧ Below W.heap.size W w' := by
  have h := calls_Most (some PA) 1 aloP (some QA) 3 ownQ  W hP (by decide) hQ (by decide) hG
  rw [alo_most] at h
  refine h.mono fun e w' h => ?_
  obtain ⟨v, rfl, h1, h2⟩ := h
  obtain ⟨A, c, rfl, h3, h4⟩ := V_told (n := 2) h1 rfl
  exact ⟨A, c, rfl, h3, h4, h2⟩
theorem at_Lacks (PA QA : Addr) (W : World) (hP : Kd.C k48 W (some PA) 1 aloP) (hQ : Kd.C k50 W (some QA) 3 ownQ) (hG : Glob W) :
    Calls Tryd.prog 30 #[.agg #[.slice (some PA) 1 1, .slice (some QA) 3 3]] W fun e w' => e = .returned (.tuple #[.int .i64 1, .int .i64 0]) ∧ Below W.heap.size W w' := by
  have h := calls_Lacks (some PA) 1 aloP (some QA) 3 ownQ  W hP (by decide) hQ (by decide) hG
  rw [alo_lacks] at h
  exact h
theorem at_Look (PA QA : Addr) (W : World) (hP : Kd.C k48 W (some PA) 1 hidP) (hQ : Kd.C k50 W (some QA) 2 hidQ) (hG : Glob W) :
    Calls Tryd.prog 32 #[.agg #[.slice (some PA) 1 1, .slice (some QA) 2 2]] W fun e w' => e = .returned (.tuple #[.int .i64 0, .int .i64 0, .int .i64 0]) ∧ Below W.heap.size W w' := by
  have h := calls_Look (some PA) 1 hidP (some QA) 2 hidQ  W hP (by decide) hQ (by decide) hG
  rw [hid_look] at h
  exact h
theorem lit2 (W : World) (a b : Int) : Kd.C (Kd.int .i64) (W.alloc (.cells #[.int .i64 a, .int .i64 b] 3)) (some ⟨W.heap.size, 0, none⟩) 2 [a, b] :=
  ints_C (xs := [a, b]) (blk_new W _) (by simp [maxLen]) (fun j hj => by obtain rfl | rfl : j = 0 ∨ j = 1 := (by simp at hj; omega); all_goals rfl)
theorem lit5 (W : World) (a b c d e : Int) : Kd.C (Kd.int .i64) (W.alloc (.cells #[.int .i64 a, .int .i64 b, .int .i64 c, .int .i64 d, .int .i64 e] 3)) (some ⟨W.heap.size, 0, none⟩) 5 [a, b, c, d, e] :=
  ints_C (xs := [a, b, c, d, e]) (blk_new W _) (by simp [maxLen]) (fun j hj => by obtain rfl | rfl | rfl | rfl | rfl : j = 0 ∨ j = 1 ∨ j = 2 ∨ j = 3 ∨ j = 4 := (by simp at hj; omega); all_goals rfl)
theorem eq5 (A : Option Addr) (c : Nat) (W : World) (hr : Kd.C (Kd.int .i64) W A 5 [1, 2, 5, 6, 7]) (hc : 5 ≤ c) :
    Calls Tryd.prog 22 #[.slice A 5 c, .slice (some ⟨W.heap.size, 0, none⟩) 5 5] (W.alloc (.cells #[.int .i64 1, .int .i64 2, .int .i64 5, .int .i64 6, .int .i64 7] 3)) fun e w' => e = .returned (.bool true) ∧ Below (W.alloc (.cells #[.int .i64 1, .int .i64 2, .int .i64 5, .int .i64 6, .int .i64 7] 3)).heap.size (W.alloc (.cells #[.int .i64 1, .int .i64 2, .int .i64 5, .int .i64 6, .int .i64 7] 3)) w' :=
  calls_Equal A 5 c [1, 2, 5, 6, 7] _ 5 5 [1, 2, 5, 6, 7] true rfl rfl (by decide) _ (Kd.C_alloc hr _) hc (lit5 W 1 2 5 6 7) (Nat.le_refl _)
theorem eq2 (A : Option Addr) (c : Nat) (W : World) (a b : Int) (hr : Kd.C (Kd.int .i64) W A 2 [a, b]) (hc : 2 ≤ c) :
    Calls Tryd.prog 22 #[.slice A 2 c, .slice (some ⟨W.heap.size, 0, none⟩) 2 2] (W.alloc (.cells #[.int .i64 a, .int .i64 b] 3)) fun e w' => e = .returned (.bool true) ∧ Below (W.alloc (.cells #[.int .i64 a, .int .i64 b] 3)).heap.size (W.alloc (.cells #[.int .i64 a, .int .i64 b] 3)) w' :=
  calls_Equal A 2 c [a, b] _ 2 2 [a, b] true rfl rfl (by simp) _ (Kd.C_alloc hr _) hc (lit2 W a b) (Nat.le_refl _)
set_option maxRecDepth 100000 in
set_option maxHeartbeats 2000000 in
theorem calls_sawn (w : World) (hG : Glob w) : Calls Tryd.prog 23 #[] w fun e w' => e = .returned (.bool true) ∧ Below w.heap.size w w' := by
  have HG := Lib.hid hG; have HB := Lib.hid (Below.refl w.heap.size w)
  clear hG
  go_enter Tryd.func23, Tryd.ntmps23
  go_wp2_with (first | (go_at_call 54; (with_reducible refine (calls_own _).mono ?_); rintro e w1 ⟨PA, QA, rfl, hPQ, hb⟩; have HP := Lib.hid ((hPQ w1 (fun _ _ _ => rfl)).1); have HQ := Lib.hid ((hPQ w1 (fun _ _ _ => rfl)).2); have HB := Lib.hid (below_step (by repeat (first | exact HB.out | apply below_alloc)) hb); (first | (have HL1 := Lib.hid (Kd.C_below HL1.out hb)) | (have HL1 := Lib.hid (Kd.C_below (Kd.C_alloc HL1.out _) hb)) | skip); (first | (have HL2 := Lib.hid (Kd.C_below HL2.out hb)) | (have HL2 := Lib.hid (Kd.C_below (Kd.C_alloc HL2.out _) hb)) | skip); (first | (have HL3 := Lib.hid (Kd.C_below HL3.out hb)) | (have HL3 := Lib.hid (Kd.C_below (Kd.C_alloc HL3.out _) hb)) | skip); (first | (have HL4 := Lib.hid (Kd.C_below HL4.out hb)) | (have HL4 := Lib.hid (Kd.C_below (Kd.C_alloc HL4.out _) hb)) | skip); clear hPQ hb) | (go_at_call 57; (with_reducible refine (calls_alone _).mono ?_); rintro e w1 ⟨PA, QA, rfl, hP, hQ, hb⟩; have HP := Lib.hid (hP); have HQ := Lib.hid (hQ); have HB := Lib.hid (below_step (by repeat (first | exact HB.out | apply below_alloc)) hb); (first | (have HL1 := Lib.hid (Kd.C_below HL1.out hb)) | (have HL1 := Lib.hid (Kd.C_below (Kd.C_alloc HL1.out _) hb)) | skip); (first | (have HL2 := Lib.hid (Kd.C_below HL2.out hb)) | (have HL2 := Lib.hid (Kd.C_below (Kd.C_alloc HL2.out _) hb)) | skip); (first | (have HL3 := Lib.hid (Kd.C_below HL3.out hb)) | (have HL3 := Lib.hid (Kd.C_below (Kd.C_alloc HL3.out _) hb)) | skip); (first | (have HL4 := Lib.hid (Kd.C_below HL4.out hb)) | (have HL4 := Lib.hid (Kd.C_below (Kd.C_alloc HL4.out _) hb)) | skip); clear hP hQ hb) | (go_at_call 58; (with_reducible refine (calls_hidden _).mono ?_); rintro e w1 ⟨PA, QA, rfl, hPQ, hb⟩; have HP := Lib.hid ((hPQ w1 (fun _ _ _ => rfl)).1); have HQ := Lib.hid ((hPQ w1 (fun _ _ _ => rfl)).2); have HB := Lib.hid (below_step (by repeat (first | exact HB.out | apply below_alloc)) hb); (first | (have HL1 := Lib.hid (Kd.C_below HL1.out hb)) | (have HL1 := Lib.hid (Kd.C_below (Kd.C_alloc HL1.out _) hb)) | skip); (first | (have HL2 := Lib.hid (Kd.C_below HL2.out hb)) | (have HL2 := Lib.hid (Kd.C_below (Kd.C_alloc HL2.out _) hb)) | skip); (first | (have HL3 := Lib.hid (Kd.C_below HL3.out hb)) | (have HL3 := Lib.hid (Kd.C_below (Kd.C_alloc HL3.out _) hb)) | skip); (first | (have HL4 := Lib.hid (Kd.C_below HL4.out hb)) | (have HL4 := Lib.hid (Kd.C_below (Kd.C_alloc HL4.out _) hb)) | skip); clear hPQ hb) | (go_at_call 16; (with_reducible refine (at_Can PA QA _ HP.out HQ.out (HG.out.below HB.out)).mono ?_); rintro e w2 ⟨rfl, hb⟩; have HB := Lib.hid (below_step (by repeat (first | exact HB.out | apply below_alloc)) hb); (first | (have HL1 := Lib.hid (Kd.C_below HL1.out hb)) | (have HL1 := Lib.hid (Kd.C_below (Kd.C_alloc HL1.out _) hb)) | skip); (first | (have HL2 := Lib.hid (Kd.C_below HL2.out hb)) | (have HL2 := Lib.hid (Kd.C_below (Kd.C_alloc HL2.out _) hb)) | skip); (first | (have HL3 := Lib.hid (Kd.C_below HL3.out hb)) | (have HL3 := Lib.hid (Kd.C_below (Kd.C_alloc HL3.out _) hb)) | skip); (first | (have HL4 := Lib.hid (Kd.C_below HL4.out hb)) | (have HL4 := Lib.hid (Kd.C_below (Kd.C_alloc HL4.out _) hb)) | skip); clear hb) | (go_at_call 20; (with_reducible refine (at_Spots PA QA _ HP.out HQ.out (HG.out.below HB.out)).mono ?_); rintro e w2 ⟨A1, c1, rfl, hc1, hC, hb⟩; have HB := Lib.hid (below_step (by repeat (first | exact HB.out | apply below_alloc)) hb); (first | (have HL1 := Lib.hid (Kd.C_below HL1.out hb)) | (have HL1 := Lib.hid (Kd.C_below (Kd.C_alloc HL1.out _) hb)) | skip); (first | (have HL2 := Lib.hid (Kd.C_below HL2.out hb)) | (have HL2 := Lib.hid (Kd.C_below (Kd.C_alloc HL2.out _) hb)) | skip); (first | (have HL3 := Lib.hid (Kd.C_below HL3.out hb)) | (have HL3 := Lib.hid (Kd.C_below (Kd.C_alloc HL3.out _) hb)) | skip); (first | (have HL4 := Lib.hid (Kd.C_below HL4.out hb)) | (have HL4 := Lib.hid (Kd.C_below (Kd.C_alloc HL4.out _) hb)) | skip); have HL1 := Lib.hid hC; clear hC hb) | (go_at_call 24; (with_reducible refine (at_Lay PA QA ⟨w1.heap.size, 0, none⟩ _ (Kd.C_alloc HP.out _) (Kd.C_alloc HQ.out _) (lit2 w1 0 1) (HG.out.below (below_alloc HB.out _))).mono ?_); rintro e w2 ⟨A2, c2, rfl, hc2, hC, hb⟩; have HB := Lib.hid (below_step (by repeat (first | exact HB.out | apply below_alloc)) hb); (first | (have HL1 := Lib.hid (Kd.C_below HL1.out hb)) | (have HL1 := Lib.hid (Kd.C_below (Kd.C_alloc HL1.out _) hb)) | skip); (first | (have HL2 := Lib.hid (Kd.C_below HL2.out hb)) | (have HL2 := Lib.hid (Kd.C_below (Kd.C_alloc HL2.out _) hb)) | skip); (first | (have HL3 := Lib.hid (Kd.C_below HL3.out hb)) | (have HL3 := Lib.hid (Kd.C_below (Kd.C_alloc HL3.out _) hb)) | skip); (first | (have HL4 := Lib.hid (Kd.C_below HL4.out hb)) | (have HL4 := Lib.hid (Kd.C_below (Kd.C_alloc HL4.out _) hb)) | skip); have HL2 := Lib.hid hC; clear hC hb) | (go_at_call 28; (with_reducible refine (at_Fewest PA QA _ HP.out HQ.out (HG.out.below HB.out)).mono ?_); rintro e w2 ⟨A3, c3, rfl, hc3, hC, hb⟩; have HB := Lib.hid (below_step (by repeat (first | exact HB.out | apply below_alloc)) hb); (first | (have HL1 := Lib.hid (Kd.C_below HL1.out hb)) | (have HL1 := Lib.hid (Kd.C_below (Kd.C_alloc HL1.out _) hb)) | skip); (first | (have HL2 := Lib.hid (Kd.C_below HL2.out hb)) | (have HL2 := Lib.hid (Kd.C_below (Kd.C_alloc HL2.out _) hb)) | skip); (first | (have HL3 := Lib.hid (Kd.C_below HL3.out hb)) | (have HL3 := Lib.hid (Kd.C_below (Kd.C_alloc HL3.out _) hb)) | skip); (first | (have HL4 := Lib.hid (Kd.C_below HL4.out hb)) | (have HL4 := Lib.hid (Kd.C_below (Kd.C_alloc HL4.out _) hb)) | skip); have HL3 := Lib.hid hC; clear hC hb) | (go_at_call 26; (with_reducible refine (at_Most PA QA _ HP.out HQ.out (HG.out.below HB.out)).mono ?_); rintro e w2 ⟨A4, c4, rfl, hc4, hC, hb⟩; have HB := Lib.hid (below_step (by repeat (first | exact HB.out | apply below_alloc)) hb); (first | (have HL1 := Lib.hid (Kd.C_below HL1.out hb)) | (have HL1 := Lib.hid (Kd.C_below (Kd.C_alloc HL1.out _) hb)) | skip); (first | (have HL2 := Lib.hid (Kd.C_below HL2.out hb)) | (have HL2 := Lib.hid (Kd.C_below (Kd.C_alloc HL2.out _) hb)) | skip); (first | (have HL3 := Lib.hid (Kd.C_below HL3.out hb)) | (have HL3 := Lib.hid (Kd.C_below (Kd.C_alloc HL3.out _) hb)) | skip); (first | (have HL4 := Lib.hid (Kd.C_below HL4.out hb)) | (have HL4 := Lib.hid (Kd.C_below (Kd.C_alloc HL4.out _) hb)) | skip); have HL4 := Lib.hid hC; clear hC hb) | (go_at_call 30; (with_reducible refine (at_Lacks PA QA _ HP.out HQ.out (HG.out.below HB.out)).mono ?_); rintro e w2 ⟨rfl, hb⟩; have HB := Lib.hid (below_step (by repeat (first | exact HB.out | apply below_alloc)) hb); (first | (have HL1 := Lib.hid (Kd.C_below HL1.out hb)) | (have HL1 := Lib.hid (Kd.C_below (Kd.C_alloc HL1.out _) hb)) | skip); (first | (have HL2 := Lib.hid (Kd.C_below HL2.out hb)) | (have HL2 := Lib.hid (Kd.C_below (Kd.C_alloc HL2.out _) hb)) | skip); (first | (have HL3 := Lib.hid (Kd.C_below HL3.out hb)) | (have HL3 := Lib.hid (Kd.C_below (Kd.C_alloc HL3.out _) hb)) | skip); (first | (have HL4 := Lib.hid (Kd.C_below HL4.out hb)) | (have HL4 := Lib.hid (Kd.C_below (Kd.C_alloc HL4.out _) hb)) | skip); clear hb) | (go_at_call 32; (with_reducible refine (at_Look PA QA _ HP.out HQ.out (HG.out.below HB.out)).mono ?_); rintro e w2 ⟨rfl, hb⟩; have HB := Lib.hid (below_step (by repeat (first | exact HB.out | apply below_alloc)) hb); (first | (have HL1 := Lib.hid (Kd.C_below HL1.out hb)) | (have HL1 := Lib.hid (Kd.C_below (Kd.C_alloc HL1.out _) hb)) | skip); (first | (have HL2 := Lib.hid (Kd.C_below HL2.out hb)) | (have HL2 := Lib.hid (Kd.C_below (Kd.C_alloc HL2.out _) hb)) | skip); (first | (have HL3 := Lib.hid (Kd.C_below HL3.out hb)) | (have HL3 := Lib.hid (Kd.C_below (Kd.C_alloc HL3.out _) hb)) | skip); (first | (have HL4 := Lib.hid (Kd.C_below HL4.out hb)) | (have HL4 := Lib.hid (Kd.C_below (Kd.C_alloc HL4.out _) hb)) | skip); clear hb) | (go_at_call 22; (with_reducible refine (eq5 A1 c1 _ HL1.out hc1).mono ?_); rintro e w3 ⟨rfl, hb⟩; have HB := Lib.hid (below_step (by repeat (first | exact HB.out | apply below_alloc)) hb); (first | (have HL1 := Lib.hid (Kd.C_below HL1.out hb)) | (have HL1 := Lib.hid (Kd.C_below (Kd.C_alloc HL1.out _) hb)) | skip); (first | (have HL2 := Lib.hid (Kd.C_below HL2.out hb)) | (have HL2 := Lib.hid (Kd.C_below (Kd.C_alloc HL2.out _) hb)) | skip); (first | (have HL3 := Lib.hid (Kd.C_below HL3.out hb)) | (have HL3 := Lib.hid (Kd.C_below (Kd.C_alloc HL3.out _) hb)) | skip); (first | (have HL4 := Lib.hid (Kd.C_below HL4.out hb)) | (have HL4 := Lib.hid (Kd.C_below (Kd.C_alloc HL4.out _) hb)) | skip); clear hb) | (go_at_call 22; (with_reducible refine (eq2 A2 c2 _ 1 6 HL2.out hc2).mono ?_); rintro e w3 ⟨rfl, hb⟩; have HB := Lib.hid (below_step (by repeat (first | exact HB.out | apply below_alloc)) hb); (first | (have HL1 := Lib.hid (Kd.C_below HL1.out hb)) | (have HL1 := Lib.hid (Kd.C_below (Kd.C_alloc HL1.out _) hb)) | skip); (first | (have HL2 := Lib.hid (Kd.C_below HL2.out hb)) | (have HL2 := Lib.hid (Kd.C_below (Kd.C_alloc HL2.out _) hb)) | skip); (first | (have HL3 := Lib.hid (Kd.C_below HL3.out hb)) | (have HL3 := Lib.hid (Kd.C_below (Kd.C_alloc HL3.out _) hb)) | skip); (first | (have HL4 := Lib.hid (Kd.C_below HL4.out hb)) | (have HL4 := Lib.hid (Kd.C_below (Kd.C_alloc HL4.out _) hb)) | skip); clear hb) | (go_at_call 22; (with_reducible refine (eq2 A3 c3 _ 0 1 HL3.out hc3).mono ?_); rintro e w3 ⟨rfl, hb⟩; have HB := Lib.hid (below_step (by repeat (first | exact HB.out | apply below_alloc)) hb); (first | (have HL1 := Lib.hid (Kd.C_below HL1.out hb)) | (have HL1 := Lib.hid (Kd.C_below (Kd.C_alloc HL1.out _) hb)) | skip); (first | (have HL2 := Lib.hid (Kd.C_below HL2.out hb)) | (have HL2 := Lib.hid (Kd.C_below (Kd.C_alloc HL2.out _) hb)) | skip); (first | (have HL3 := Lib.hid (Kd.C_below HL3.out hb)) | (have HL3 := Lib.hid (Kd.C_below (Kd.C_alloc HL3.out _) hb)) | skip); (first | (have HL4 := Lib.hid (Kd.C_below HL4.out hb)) | (have HL4 := Lib.hid (Kd.C_below (Kd.C_alloc HL4.out _) hb)) | skip); clear hb) | (go_at_call 22; (with_reducible refine (eq2 A4 c4 _ 1 2 HL4.out hc4).mono ?_); rintro e w3 ⟨rfl, hb⟩; have HB := Lib.hid (below_step (by repeat (first | exact HB.out | apply below_alloc)) hb); (first | (have HL1 := Lib.hid (Kd.C_below HL1.out hb)) | (have HL1 := Lib.hid (Kd.C_below (Kd.C_alloc HL1.out _) hb)) | skip); (first | (have HL2 := Lib.hid (Kd.C_below HL2.out hb)) | (have HL2 := Lib.hid (Kd.C_below (Kd.C_alloc HL2.out _) hb)) | skip); (first | (have HL3 := Lib.hid (Kd.C_below HL3.out hb)) | (have HL3 := Lib.hid (Kd.C_below (Kd.C_alloc HL3.out _) hb)) | skip); (first | (have HL4 := Lib.hid (Kd.C_below HL4.out hb)) | (have HL4 := Lib.hid (Kd.C_below (Kd.C_alloc HL4.out _) hb)) | skip); clear hb))
  exact bodyPost_ret (results_tmp rfl _ _ _) rfl ⟨rfl, HB.out⟩
def skewbaldlaw01_sawn.f : Option Bool := some true
end Go.Proofs.YtekjlpldooihhaaDoorK
namespace Go.Proofs.YtekjlpldooihhaaDoor.PT
open Go.Proofs.YtekjlpldooihhaaDoorSh
open Go.Proofs.YtekjlpldooihhaaDoor.PA (S48 S50 S60 at_L2 at_L4 at_T48 at_T50 at_T60 errW errW_none errW_some k48 k48_mk k48_mkM k48_open k48_openM k50 k50_mk k50_mkM k50_open k50_openM k60 k60_mk k60_mkM k60_open k60_openM rd_L2 rd_L4 rd_T48 rd_T50 rd_T60 z48 z50 z60)
open Go.Proofs.YtekjlpldooihhaaDoorP Go.Proofs.YtekjlpldooihhaaDoorK
open Go.RowKit Go.Proofs.YtekjlpldooihhaaDoorW.PrintWords Go.Proofs.YtekjlpldooihhaaDoorW.PrintLast Go.Proofs.YtekjlpldooihhaaDoorW.PrintMore
attribute [local go_sem] max2_int min2_int max_two min_two max_three min_three max_four min_four
set_option linter.unusedVariables false
set_option linter.unusedSimpArgs false
def skewbaldref00_In.f (a0 : Int) (a1 : Int) (a2 : Int) : Option (Bool) := if a1 ≤ a0 then (some (decide (a0 ≤ a2))) else (some false)
set_option maxHeartbeats 8000000 in
set_option maxRecDepth 100000 in
theorem skewbaldref00_In.calls (a0 : Int) (a1 : Int) (a2 : Int) (r : Bool) (w : World) (h : skewbaldref00_In.f a0 a1 a2 = some r) :
  Calls Tryd.prog 38 #[.int .i64 a0, .int .i64 a1, .int .i64 a2] w fun e w' => e = .returned (.bool r) ∧ Drawn0 w w' := by
 have H : (if a1 ≤ a0 then (some (decide (a0 ≤ a2))) else (some false)) = some r := h
 clear h
 by_cases c4 : a1 ≤ a0
 ·rw [if_pos c4] at H; have c4b0 := decide_eq_true c4; clear c4; obtain rfl := Option.some.inj H
  go_enter Tryd.func38, Tryd.ntmps38
  go_wp2
  go_ret
  exact ⟨sm, by repeat (first | exact Drawn0.refl _ | apply Drawn0.step)⟩
 ·rw [if_neg c4] at H
  have c4b0 : decide (a1 ≤ a0) = false := decide_eq_false c4
  clear c4; obtain rfl := Option.some.inj H
  go_enter Tryd.func38, Tryd.ntmps38
  go_wp2
  go_ret
  exact ⟨sm, by repeat (first | exact Drawn0.refl _ | apply Drawn0.step)⟩
def skewbaldref00_Grows.l0 : Nat → List Int → Int → Int → Int → Option (Bool)
 | 0, _, _, _, _ => none
 | k + 1, x0, x1, x5, x6 => if x6 < (x0.length : Int) then (if 0 ≤ x6 then (if (rd x0 x6) ≤ x5 then (some false) else (if (rd x0 x6) ≥ x1 then (some false) else (skewbaldref00_Grows.l0 k x0 x1 (rd x0 x6) (wrap64 (x6 + 1))))) else (none)) else (some true)
def skewbaldref00_Grows.f (k : Nat) (l0 : List Int) (a1 : Int) : Option (Bool) := skewbaldref00_Grows.l0 k l0 a1 (-1) 0
set_option maxHeartbeats 8000000 in
set_option maxRecDepth 100000 in
theorem skewbaldref00_Grows.calls (k : Nat) (A0 : Option Addr) (c0 : Nat) (l0 : List Int) (a1 : Int) (r : Bool) (w : World) (hr0 : Kd.C (Kd.int .i64) w A0 l0.length l0) (hc0 : l0.length ≤ c0) (h : skewbaldref00_Grows.f k l0 a1 = some r) :
  Calls Tryd.prog 39 #[.slice A0 l0.length c0, .int .i64 a1] w fun e w' => e = .returned (.bool r) ∧ Drawn0 w w' := by
 have HR0 := Aside0.mk hr0; have HC0 := Aside0.mk hc0; clear hr0 hc0
 have H : (skewbaldref00_Grows.l0 k l0 a1 (-1) 0) = some r := h
 clear h; have H' := Aside0.mk H; clear H
 go_enter Tryd.func39, Tryd.ntmps39
 go_wp2
 go_loopg [5, 6] k (fun kq v5 v6 w' => ∃ (x5_1 : Int) (x6_1 : Int), v5 = .int .i64 x5_1 ∧ v6 = .int .i64 x6_1 ∧ Aside0 (skewbaldref00_Grows.l0 kq l0 a1 x5_1 x6_1 = some r) ∧ Aside0 (kq ≤ k) ∧ Drawn0 w w')
 case atStart => exact ⟨((-1)), (0), sm, sm, H', ⟨Nat.le_refl _⟩, by repeat (first | exact Drawn0.refl _ | apply Drawn0.step)⟩
 case round =>
  clear H'; (try clear p2); obtain ⟨x5_1, x6_1, rfl, rfl, HA, HK1, ⟨m1, rfl⟩⟩ := hrel
  cases gk with
  | zero => exact absurd HA.out (by simp [skewbaldref00_Grows.l0])
  | succ k1 =>
   have H := HA.out; clear HA
   simp only [skewbaldref00_Grows.l0] at H
   by_cases c3 : x6_1 < (l0.length : Int)
   ·rw [if_pos c3] at H; have c3b0 := decide_eq_true c3; clear c3
    by_cases c4 : 0 ≤ x6_1
    ·rw [if_pos c4] at H; have c4b0 := decide_eq_true c4; clear c4
     by_cases c5 : (rd l0 x6_1) ≤ x5_1
     ·rw [if_pos c5] at H; have c5b0 := decide_eq_true c5; clear c5; obtain rfl := Option.some.inj H
      have p101 : 0 ≤ (x6_1 : Int) := od
      have q101 : x6_1 < (l0.length : Int) := od
      obtain ⟨ad101, e101, hx101_0⟩ := Kd.at_int HR0.out x6_1 p101 q101
      cases e101
      replace p101 := eq_true p101; replace q101 := eq_true q101
      go_wp2
      go_ret
      exact ⟨sm, by repeat (first | exact Drawn0.refl _ | apply Drawn0.step)⟩
     ·rw [if_neg c5] at H
      have c5b0 : decide ((rd l0 x6_1) ≤ x5_1) = false := decide_eq_false c5
      clear c5
      by_cases c6 : (rd l0 x6_1) ≥ a1
      ·rw [if_pos c6] at H; have c6b0 := decide_eq_true c6; clear c6; obtain rfl := Option.some.inj H
       have p101 : 0 ≤ (x6_1 : Int) := od
       have q101 : x6_1 < (l0.length : Int) := od
       obtain ⟨ad101, e101, hx101_0⟩ := Kd.at_int HR0.out x6_1 p101 q101
       cases e101
       replace p101 := eq_true p101; replace q101 := eq_true q101
       have p102 : 0 ≤ (x6_1 : Int) := od
       have q102 : x6_1 < (l0.length : Int) := od
       obtain ⟨ad102, e102, hx102_0⟩ := Kd.at_int HR0.out x6_1 p102 q102
       obtain rfl : ad101 = ad102 := (by injection e102)
       replace p102 := eq_true p102; replace q102 := eq_true q102
       go_wp2
       go_ret
       exact ⟨sm, by repeat (first | exact Drawn0.refl _ | apply Drawn0.step)⟩
      ·rw [if_neg c6] at H
       have c6b0 : decide (a1 ≤ (rd l0 x6_1)) = false := decide_eq_false c6
       clear c6; have H' := Aside0.mk H; clear H
       have p101 : 0 ≤ (x6_1 : Int) := od
       have q101 : x6_1 < (l0.length : Int) := od
       obtain ⟨ad101, e101, hx101_0⟩ := Kd.at_int HR0.out x6_1 p101 q101
       cases e101
       replace p101 := eq_true p101; replace q101 := eq_true q101
       have p102 : 0 ≤ (x6_1 : Int) := od
       have q102 : x6_1 < (l0.length : Int) := od
       obtain ⟨ad102, e102, hx102_0⟩ := Kd.at_int HR0.out x6_1 p102 q102
       obtain rfl : ad101 = ad102 := (by injection e102)
       replace p102 := eq_true p102; replace q102 := eq_true q102
       have p103 : 0 ≤ (x6_1 : Int) := od
       have q103 : x6_1 < (l0.length : Int) := od
       obtain ⟨ad103, e103, hx103_0⟩ := Kd.at_int HR0.out x6_1 p103 q103
       obtain rfl : ad101 = ad103 := (by injection e103)
       replace p103 := eq_true p103; replace q103 := eq_true q103
       go_wp2
       go_roundg k1
       case measure => have := HK1.out; omega
       case rel => exact ⟨(rd l0 x6_1), (wrap64 (x6_1 + 1)), sm, sm, H', ⟨lo HK1⟩, by repeat (first | exact Drawn0.refl _ | apply Drawn0.step)⟩
    ·rw [if_neg c4] at H
     exact absurd H (by simp)
   ·rw [if_neg c3] at H
    have c3b0 : decide (x6_1 < (l0.length : Int)) = false := decide_eq_false c3
    clear c3; obtain rfl := Option.some.inj H
    go_wp2
    go_ret
    exact ⟨sm, by repeat (first | exact Drawn0.refl _ | apply Drawn0.step)⟩
def skewbaldref00_Ordered.f (a0_0 : Int) (a0_1 : Int) (a1 : Int) (a2 : Int) : Option (Bool) := if a1 ≤ a0_0 then (if a0_0 ≤ a0_1 then (some (decide (a0_1 ≤ a2))) else (some false)) else (some false)
set_option maxHeartbeats 8000000 in
set_option maxRecDepth 100000 in
theorem skewbaldref00_Ordered.calls (a0_0 : Int) (a0_1 : Int) (a1 : Int) (a2 : Int) (r : Bool) (w : World) (h : skewbaldref00_Ordered.f a0_0 a0_1 a1 a2 = some r) :
  Calls Tryd.prog 73 #[.agg #[.int .i64 a0_0, .int .i64 a0_1], .int .i64 a1, .int .i64 a2] w fun e w' => e = .returned (.bool r) ∧ Below w.heap.size w w' := by
 have hu60 := Tryd.underlying60; have HB := Aside0.mk (Below.refl w.heap.size w)
 have H : (if a1 ≤ a0_0 then (if a0_0 ≤ a0_1 then (some (decide (a0_1 ≤ a2))) else (some false)) else (some false)) = some r := h
 clear h
 by_cases c4 : a1 ≤ a0_0
 ·rw [if_pos c4] at H; have c4b0 := decide_eq_true c4; clear c4
  by_cases c5 : a0_0 ≤ a0_1
  ·rw [if_pos c5] at H; have c5b0 := decide_eq_true c5; clear c5; obtain rfl := Option.some.inj H
   go_enter Tryd.func73, Tryd.ntmps73
   go_wp2_with (first | (refine bx 3 #[.int .i64 a0_0, .int .i64 a0_1] 60 ?_; intro gb104 hg w6 hbox hb; have BK104 := Aside0.mk hbox; have GW104 := gw hg HB; have GE104 := gw hg HB; replace HB := hs HB hb; clear hb hbox hg; obtain ⟨hcz7_0, hcz7_1, hfz7_0, hfz7_1⟩ := b2 (w := w6) BK104))
   go_ret
   exact ⟨by first | rfl | (simp [errW_none, errW_some] <;> rfl) | (simp [*, errW_none, errW_some] <;> rfl), bl⟩
  ·rw [if_neg c5] at H
   have c5b0 : decide (a0_0 ≤ a0_1) = false := decide_eq_false c5
   clear c5; obtain rfl := Option.some.inj H
   go_enter Tryd.func73, Tryd.ntmps73
   go_wp2_with (first | (refine bx 3 #[.int .i64 a0_0, .int .i64 a0_1] 60 ?_; intro gb104 hg w8 hbox hb; have BK104 := Aside0.mk hbox; have GW104 := gw hg HB; have GE104 := gw hg HB; replace HB := hs HB hb; clear hb hbox hg; obtain ⟨hcz9_0, hcz9_1, hfz9_0, hfz9_1⟩ := b2 (w := w8) BK104))
   go_ret
   exact ⟨by first | rfl | (simp [errW_none, errW_some] <;> rfl) | (simp [*, errW_none, errW_some] <;> rfl), bl⟩
 ·rw [if_neg c4] at H
  have c4b0 : decide (a1 ≤ a0_0) = false := decide_eq_false c4
  clear c4; obtain rfl := Option.some.inj H
  go_enter Tryd.func73, Tryd.ntmps73
  go_wp2_with (first | (refine bx 3 #[.int .i64 a0_0, .int .i64 a0_1] 60 ?_; intro gb104 hg w10 hbox hb; have BK104 := Aside0.mk hbox; have GW104 := gw hg HB; have GE104 := gw hg HB; replace HB := hs HB hb; clear hb hbox hg; obtain ⟨hcz11_0, hcz11_1, hfz11_0, hfz11_1⟩ := b2 (w := w10) BK104))
  go_ret
  exact ⟨by first | rfl | (simp [errW_none, errW_some] <;> rfl) | (simp [*, errW_none, errW_some] <;> rfl), bl⟩
mutual
def skewbaldlaw01_sound.j0 : Nat → Bool → List (S48) → List (S50) → Option (Bool)
 | 0, _, _, _ => none
 | k + 1, x3, x339000, x339001 => skewbaldlaw01_sound.l0 k x3 0 x339000 x339001
def skewbaldlaw01_sound.l0 : Nat → Bool → Int → List (S48) → List (S50) → Option (Bool)
 | 0, _, _, _, _ => none
 | k + 1, x3, x4, x339000, x339001 => if x3 = true then (skewbaldlaw01_sound.j2 k x3 x4 (decide (x4 < (x339000.length : Int))) x339000 x339001) else (skewbaldlaw01_sound.j2 k x3 x4 false x339000 x339001)
def skewbaldlaw01_sound.j2 : Nat → Bool → Int → Bool → List (S48) → List (S50) → Option (Bool)
 | 0, _, _, _, _, _ => none
 | k + 1, x3, x4, x31, x339000, x339001 => if x31 = true then (if 0 ≤ x4 then (if x4 < (x339000.length : Int) then ((skewbaldref00_In.f ((rd_T48 x339000 x4).f0) 1 16).bind fun t344 => (if t344 = true then (skewbaldlaw01_sound.j3 k (decide ((((rd_T48 x339000 x4).f1).length : Int) ≤ 3)) x4 x339000 x339001 ((rd_T48 x339000 x4).f0) ((rd_T48 x339000 x4).f1)) else (skewbaldlaw01_sound.j3 k false x4 x339000 x339001 ((rd_T48 x339000 x4).f0) ((rd_T48 x339000 x4).f1)))) else (none)) else (none)) else (skewbaldlaw01_sound.l2 k x3 0 x339000 x339001)
def skewbaldlaw01_sound.j3 : Nat → Bool → Int → List (S48) → List (S50) → Int → List (S60) → Option (Bool)
 | 0, _, _, _, _, _, _ => none
 | k + 1, x3, x4, x339000, x339001, x344000, x344001 => skewbaldlaw01_sound.l1 k x3 x4 0 x339000 x339001 x344000 x344001
def skewbaldlaw01_sound.l1 : Nat → Bool → Int → Int → List (S48) → List (S50) → Int → List (S60) → Option (Bool)
 | 0, _, _, _, _, _, _, _ => none
 | k + 1, x3, x4, x6, x339000, x339001, x344000, x344001 => if x3 = true then (if x6 < (x344001.length : Int) then (if 0 ≤ x6 then ((skewbaldref00_Ordered.f ((rd_T60 x344001 x6).f0) ((rd_T60 x344001 x6).f1) 0 (wrap64 (x344000 - 1))).bind fun t346 => (skewbaldlaw01_sound.l1 k t346 x4 (wrap64 (x6 + 1)) x339000 x339001 x344000 x344001)) else (none)) else (skewbaldlaw01_sound.l0 k x3 (wrap64 (x4 + 1)) x339000 x339001)) else (skewbaldlaw01_sound.l0 k x3 (wrap64 (x4 + 1)) x339000 x339001)
def skewbaldlaw01_sound.l2 : Nat → Bool → Int → List (S48) → List (S50) → Option (Bool)
 | 0, _, _, _, _ => none
 | k + 1, x3, x7, x339000, x339001 => if x3 = true then (skewbaldlaw01_sound.j6 k x3 x7 (decide (x7 < (x339001.length : Int))) x339000 x339001) else (skewbaldlaw01_sound.j6 k x3 x7 false x339000 x339001)
def skewbaldlaw01_sound.j6 : Nat → Bool → Int → Bool → List (S48) → List (S50) → Option (Bool)
 | 0, _, _, _, _, _ => none
 | k + 1, x3, x7, x74, x339000, x339001 => if x74 = true then (if 0 ≤ x7 then (if x7 < (x339001.length : Int) then ((skewbaldref00_In.f ((rd_T50 x339001 x7).f0) 1 12).bind fun t349 => (if t349 = true then (if (((rd_T50 x339001 x7).f1).length : Int) ≤ 3 then ((skewbaldref00_Grows.f k ((rd_T50 x339001 x7).f1) ((rd_T50 x339001 x7).f0)).bind fun t350 => (skewbaldlaw01_sound.l2 k t350 (wrap64 (x7 + 1)) x339000 x339001)) else (skewbaldlaw01_sound.l2 k false (wrap64 (x7 + 1)) x339000 x339001)) else (skewbaldlaw01_sound.l2 k false (wrap64 (x7 + 1)) x339000 x339001))) else (none)) else (none)) else (some x3)
end
def skewbaldlaw01_sound.f (k : Nat) (l0_0 : List (S48)) (l0_1 : List (S50)) : Option (Bool) := (plank_Check.f l0_0 l0_1).bind fun t339 => (if t339 = 0 then ((skewbaldref00_In.f (l0_0.length : Int) 1 3).bind fun t340 => (if t340 = true then ((skewbaldref00_In.f (l0_1.length : Int) 1 5).bind fun t341 => (skewbaldlaw01_sound.j0 k t341 l0_0 l0_1)) else (skewbaldlaw01_sound.j0 k false l0_0 l0_1))) else (skewbaldlaw01_sound.j0 k false l0_0 l0_1))
def skewbaldlaw01_sound.T10 : Bool × List (List Nat × List Nat) := (true, [([], []), ([0], [0]), ([], []), ([1, 2], [1, 2]), ([3], [3]), ([], []), ([5], [5]), ([6], [6]), ([4, 7], [4, 7]), ([8, 8, 0, 1, 2, 3, 4, 5, 6, 7, 8], [8])])
def skewbaldlaw01_sound.B10 : List Nat := [0, 1, 0, 7, 15, 0, 32, 96, 255, 511]
theorem skewbaldlaw01_sound.tab10 : rtab .any (opsOf Tryd.f34 10) = skewbaldlaw01_sound.T10 := by kernel_rfl
theorem skewbaldlaw01_sound.bits10 : waitsOk skewbaldlaw01_sound.T10.2 skewbaldlaw01_sound.B10 = true := by kernel_rfl
set_option maxHeartbeats 8000000 in
set_option maxRecDepth 100000 in
theorem skewbaldlaw01_sound.calls (k : Nat) (A0_0 : Option Addr) (c0_0 : Nat) (l0_0 : List (S48)) (A0_1 : Option Addr) (c0_1 : Nat) (l0_1 : List (S50)) (r : Bool) (w : World) (hr0_0 : Kd.C k48 w A0_0 l0_0.length l0_0) (hc0_0 : l0_0.length ≤ c0_0) (hr0_1 : Kd.C k50 w A0_1 l0_1.length l0_1) (hc0_1 : l0_1.length ≤ c0_1) (h : skewbaldlaw01_sound.f k l0_0 l0_1 = some r) :
  Calls Tryd.prog 34 #[.agg #[.slice A0_0 l0_0.length c0_0, .slice A0_1 l0_1.length c0_1]] w fun e w' => e = .returned (.bool r) ∧ Below w.heap.size w w' := by
 have hu25 := Tryd.underlying25; have hu48 := Tryd.underlying48; have hu60 := Tryd.underlying60; have hu50 := Tryd.underlying50; have HR0_0 := Aside0.mk hr0_0; have HC0_0 := Aside0.mk hc0_0; clear hr0_0 hc0_0; have HR0_1 := Aside0.mk hr0_1; have HC0_1 := Aside0.mk hc0_1; clear hr0_1 hc0_1; have HB := Aside0.mk (Below.refl w.heap.size w)
 have H : ((plank_Check.f l0_0 l0_1).bind fun t339 => (if t339 = 0 then ((skewbaldref00_In.f (l0_0.length : Int) 1 3).bind fun t340 => (if t340 = true then ((skewbaldref00_In.f (l0_1.length : Int) 1 5).bind fun t341 => (skewbaldlaw01_sound.j0 k t341 l0_0 l0_1)) else (skewbaldlaw01_sound.j0 k false l0_0 l0_1))) else (skewbaldlaw01_sound.j0 k false l0_0 l0_1))) = some r := h
 clear h; have HC2 := Aside0.mk H; clear H
 go_enter Tryd.func34, Tryd.ntmps34
 go_upto_region 1 with (first | ((with_reducible refine gate_dst (N := 1) rfl ?_); (try (refine gate_guard (by rfl) ?_; dsimp only)); refine bx 1 #[.slice A0_0 l0_0.length c0_0, .slice A0_1 l0_1.length c0_1] 25 ?_; intro gb338 hg w3 hbox hb; have BK338 := Aside0.mk hbox; have GW338 := gw hg HB; have GE338 := gw hg HB; replace HB := hs HB hb; clear hb hbox hg))
 (try simp only [Act.put, List.setIfInBounds_toArray, List.set_cons_zero, List.set_cons_succ])
 go_cut [3] (fun v3 wc => ∃ (kq : Nat) (x3_1 : Bool), v3 = .bool x3_1 ∧ Aside0 (skewbaldlaw01_sound.j0 kq x3_1 l0_0 l0_1 = some r) ∧ Aside0 (kq ≤ k) ∧ Aside0 (wc.heap[gb338]? = some (.cells #[(.slice A0_0 l0_0.length c0_0), (.slice A0_1 l0_1.length c0_1)] 25 (0, 0))) ∧ Aside0 (Below w.heap.size w wc))
 case first =>
  have H := HC2.out; clear HC2; obtain ⟨t339, A4, H⟩ := ob H
  by_cases c5 : t339 = 0
  ·rw [if_pos c5] at H
   have c5b0 : (t339 == 0) = true := beq_iff_eq.mpr c5
   have c5b1 : (t339 != 0) = false := bne_eq_false_iff_eq.mpr c5
   clear c5
   (first | rw [c5b0] | (simp only [i64_w, i32_w]; rw [c5b0]) | skip)
   obtain ⟨t340, A6, H⟩ := ob H
   by_cases c7 : t340 = true
   ·subst c7; rw [if_pos rfl] at H; obtain ⟨t341, A8, H⟩ := ob H; have H' := Aside0.mk H; clear H; obtain ⟨hcz9_0, hcz9_1, hfz9_0, hfz9_1⟩ := b2 (w := w3) BK338
    go_wp2_with (first | ((with_reducible refine gate_callee (f := 18) rfl ?_); refine gl (some 10) Tryd.func18 #[.agg #[.slice A0_0 l0_0.length c0_0, .slice A0_1 l0_1.length c0_1]] ?_; (with_reducible refine (plank_Check.calls _ _ l0_0 _ _ l0_1 t339 _ cl HC0_0.out cl HC0_1.out A4.out).mono ?_); rintro e w10 ⟨rfl, hb⟩; refine ⟨_, rfl, ?_⟩; replace BK338 := nb BK338 hb; replace HB := hs HB hb; (try clear hb); (try clear hb2); (try clear hk); (try clear hi); obtain ⟨hcz11_0, hcz11_1, hfz11_0, hfz11_1⟩ := b2 (w := w10) BK338) | (go_at_call 38; (with_reducible refine (skewbaldref00_In.calls (l0_0.length : Int) 1 3 true _ A6.out).mono ?_); rintro e w' ⟨rfl, ⟨nd, rfl⟩⟩) | (go_at_call 38; (with_reducible refine (skewbaldref00_In.calls (l0_1.length : Int) 1 5 t341 _ A8.out).mono ?_); rintro e w' ⟨rfl, ⟨nd, rfl⟩⟩))
    go_meet
    case rel => exact ⟨_, (t341), sm, H', ⟨by first | omega | exact Nat.le_refl _⟩, ⟨bk⟩, ⟨bl⟩⟩
   ·replace c7 := Bool.eq_false_iff.mpr c7; subst c7
    rw [if_neg (show ¬ (false = true) by decide)] at H
    have H' := Aside0.mk H; clear H; obtain ⟨hcz12_0, hcz12_1, hfz12_0, hfz12_1⟩ := b2 (w := w3) BK338
    go_wp2_with (first | ((with_reducible refine gate_callee (f := 18) rfl ?_); refine gl (some 10) Tryd.func18 #[.agg #[.slice A0_0 l0_0.length c0_0, .slice A0_1 l0_1.length c0_1]] ?_; (with_reducible refine (plank_Check.calls _ _ l0_0 _ _ l0_1 t339 _ cl HC0_0.out cl HC0_1.out A4.out).mono ?_); rintro e w13 ⟨rfl, hb⟩; refine ⟨_, rfl, ?_⟩; replace BK338 := nb BK338 hb; replace HB := hs HB hb; (try clear hb); (try clear hb2); (try clear hk); (try clear hi); obtain ⟨hcz14_0, hcz14_1, hfz14_0, hfz14_1⟩ := b2 (w := w13) BK338) | (go_at_call 38; (with_reducible refine (skewbaldref00_In.calls (l0_0.length : Int) 1 3 false _ A6.out).mono ?_); rintro e w' ⟨rfl, ⟨nd, rfl⟩⟩))
    go_meet
    case rel => exact ⟨_, (false), sm, H', ⟨by first | omega | exact Nat.le_refl _⟩, ⟨bk⟩, ⟨bl⟩⟩
  ·rw [if_neg c5] at H
   have c5b0 : (t339 == 0) = false := beq_eq_false_iff_ne.mpr c5
   have c5b1 : (t339 != 0) = true := bne_iff_ne.mpr c5
   (first | rw [c5b0] | (simp only [i64_w, i32_w]; rw [c5b0]) | skip)
   have H' := Aside0.mk H; clear H; obtain ⟨hcz15_0, hcz15_1, hfz15_0, hfz15_1⟩ := b2 (w := w3) BK338
   go_wp2_with (first | ((with_reducible refine gate_callee (f := 18) rfl ?_); refine gl (some 10) Tryd.func18 #[.agg #[.slice A0_0 l0_0.length c0_0, .slice A0_1 l0_1.length c0_1]] ?_; (with_reducible refine (plank_Check.calls _ _ l0_0 _ _ l0_1 t339 _ cl HC0_0.out cl HC0_1.out A4.out).mono ?_); rintro e w16 ⟨rfl, hb⟩; refine ⟨_, rfl, ?_⟩; replace BK338 := nb BK338 hb; replace HB := hs HB hb; (try clear hb); (try clear hb2); (try clear hk); (try clear hi)))
   go_meet
   case rel => exact ⟨_, (false), sm, H', ⟨by first | omega | exact Nat.le_refl _⟩, ⟨bk⟩, ⟨bl⟩⟩
 case rest =>
  clear HC2; (try clear c1); (try clear p2); (try clear c3); (try clear c5); (try clear c5b0); (try clear c5b1); (try clear c7); (try clear hcz11_0); (try clear hcz11_1); (try clear hcz12_0); (try clear hcz12_1); (try clear hcz14_0); (try clear hcz14_1); (try clear hcz15_0); (try clear hcz15_1); (try clear hcz9_0); (try clear hcz9_1); (try clear hfz11_0); (try clear hfz11_1); (try clear hfz12_0); (try clear hfz12_1); (try clear hfz14_0); (try clear hfz14_1); (try clear hfz15_0); (try clear hfz15_1); (try clear hfz9_0); (try clear hfz9_1); obtain ⟨kq, x3_1, rfl, HA, HJ1, BK338, HB⟩ := hcut
  cases kq with
  | zero => exact absurd HA.out (by simp [skewbaldlaw01_sound.j0])
  | succ kj1 =>
   have H := HA.out; clear HA
   simp only [skewbaldlaw01_sound.j0] at H
   have H' := Aside0.mk H; clear H
   go_wp2
   go_loopg [3, 4] kj1 (fun kq v3 v4 w' => ∃ (x3_2 : Bool) (x4_2 : Int), v3 = .bool x3_2 ∧ v4 = .int .i64 x4_2 ∧ Aside0 (skewbaldlaw01_sound.l0 kq x3_2 x4_2 l0_0 l0_1 = some r) ∧ Aside0 (kq ≤ kj1) ∧ Aside0 (w'.heap[gb338]? = some (.cells #[(.slice A0_0 l0_0.length c0_0), (.slice A0_1 l0_1.length c0_1)] 25 (0, 0))) ∧ Aside0 (Below w.heap.size w w'))
   case atStart => exact ⟨(x3_1), (0), sm, sm, H', ⟨Nat.le_refl _⟩, ⟨bk⟩, ⟨bl⟩⟩
   case round =>
    clear H'; (try clear c1); (try clear p2); (try clear c3); (try clear c5); (try clear c5b0); (try clear c5b1); (try clear c7); (try clear hcz11_0); (try clear hcz11_1); (try clear hcz12_0); (try clear hcz12_1); (try clear hcz14_0); (try clear hcz14_1); (try clear hcz15_0); (try clear hcz15_1); (try clear hcz9_0); (try clear hcz9_1); (try clear hfz11_0); (try clear hfz11_1); (try clear hfz12_0); (try clear hfz12_1); (try clear hfz14_0); (try clear hfz14_1); (try clear hfz15_0); (try clear hfz15_1); (try clear hfz9_0); (try clear hfz9_1); obtain ⟨x3_2, x4_2, rfl, rfl, HA, HK2, BK338, HB⟩ := hrel
    cases gk with
    | zero => exact absurd HA.out (by simp [skewbaldlaw01_sound.l0])
    | succ k2 =>
     have H := HA.out; clear HA
     simp only [skewbaldlaw01_sound.l0] at H
     have HC17 := Aside0.mk H; clear H
     go_upto_region 3 with (fail)
     go_cut [31] (fun v31 wc => ∃ (kq : Nat) (x31_16 : Bool), v31 = .bool x31_16 ∧ Aside0 (skewbaldlaw01_sound.j2 kq x3_2 x4_2 x31_16 l0_0 l0_1 = some r) ∧ Aside0 (kq ≤ k2) ∧ Aside0 (wc.heap[gb338]? = some (.cells #[(.slice A0_0 l0_0.length c0_0), (.slice A0_1 l0_1.length c0_1)] 25 (0, 0))) ∧ Aside0 (Below w.heap.size w wc))
     case first =>
      have H := HC17.out; clear HC17
      by_cases c18 : x3_2 = true
      ·subst c18; rw [if_pos rfl] at H; have H' := Aside0.mk H; clear H; obtain ⟨hcz19_0, hcz19_1, hfz19_0, hfz19_1⟩ := b2 (w := wr) BK338
       go_wp2
       go_meet
       case rel => exact ⟨_, (decide (x4_2 < (l0_0.length : Int))), sm, H', ⟨lp HJ1 HK2⟩, ⟨bk⟩, ⟨bl⟩⟩
      ·replace c18 := Bool.eq_false_iff.mpr c18; subst c18
       rw [if_neg (show ¬ (false = true) by decide)] at H
       have H' := Aside0.mk H; clear H
       go_wp2
       go_meet
       case rel => exact ⟨_, (false), sm, H', ⟨lp HJ1 HK2⟩, ⟨bk⟩, ⟨bl⟩⟩
     case rest =>
      clear HC17; (try clear c1); (try clear p2); (try clear c3); (try clear c5); (try clear c5b0); (try clear c5b1); (try clear c7); (try clear c18); (try clear hcz11_0); (try clear hcz11_1); (try clear hcz12_0); (try clear hcz12_1); (try clear hcz14_0); (try clear hcz14_1); (try clear hcz15_0); (try clear hcz15_1); (try clear hcz19_0); (try clear hcz19_1); (try clear hcz9_0); (try clear hcz9_1); (try clear hfz11_0); (try clear hfz11_1); (try clear hfz12_0); (try clear hfz12_1); (try clear hfz14_0); (try clear hfz14_1); (try clear hfz15_0); (try clear hfz15_1); (try clear hfz19_0); (try clear hfz19_1); (try clear hfz9_0); (try clear hfz9_1)
      obtain ⟨kq, x31_16, rfl, HA, HJ16, BK338, HB⟩ := hcut
      cases kq with
      | zero => exact absurd HA.out (by simp [skewbaldlaw01_sound.j2])
      | succ kj16 =>
       have H := HA.out; clear HA
       simp only [skewbaldlaw01_sound.j2] at H
       by_cases c20 : x31_16 = true
       ·subst c20; rw [if_pos rfl] at H
        by_cases c21 : 0 ≤ x4_2
        ·rw [if_pos c21] at H; have c21b0 := decide_eq_true c21; clear c21
         by_cases c22 : x4_2 < (l0_0.length : Int)
         ·rw [if_pos c22] at H; have c22b0 := decide_eq_true c22; clear c22; have HC23 := Aside0.mk H; clear H; obtain ⟨hcz24_0, hcz24_1, hfz24_0, hfz24_1⟩ := b2 (w := wc) BK338
          have p342 : 0 ≤ (x4_2 : Int) := od
          have q342 : x4_2 < (l0_0.length : Int) := od
          obtain ⟨ad342, A342_1, c342_1, e342, hx342_0, hx342_1, hl342_1, hi342_1⟩ := at_T48 HR0_0.out x4_2 p342 q342
          cases e342
          replace hx342_0 := cm HB hx342_0; replace hx342_1 := cm HB hx342_1; have HR342_1 := Aside0.mk hi342_1; have HC342_1 := Aside0.mk hl342_1; clear hi342_1 hl342_1; replace p342 := eq_true p342; replace q342 := eq_true q342
          go_upto_region 6 with (first | ((with_reducible refine gate_dst (N := 5) rfl ?_); (try (refine gate_guard (by rfl) ?_; dsimp only)); refine bx 5 #[.int .i64 0, .slice none 0 0] 48 ?_; intro gb343 hg w25 hbox hb; have BK343 := Aside0.mk hbox; have GW343 := gw hg HB; have GE343 := gw hg HB; replace HB := hs HB hb; have NB338_343 := nl hg BK338; have NB343_338 := ng hg BK338; replace BK338 := nb BK338 hb; clear hb hbox hg; have hnb26 := NB343_338.out; have hnc26 := NB338_343.out; obtain ⟨hcz27_0, hcz27_1, hfz27_0, hfz27_1⟩ := b2 (w := w25) BK343))
          (try simp only [Act.put, List.setIfInBounds_toArray, List.set_cons_zero, List.set_cons_succ])
          go_cut [3] (fun v3 wc => ∃ (kq : Nat) (x3_22 : Bool), v3 = .bool x3_22 ∧ Aside0 (skewbaldlaw01_sound.j3 kq x3_22 x4_2 l0_0 l0_1 ((rd_T48 l0_0 x4_2).f0) ((rd_T48 l0_0 x4_2).f1) = some r) ∧ Aside0 (kq ≤ kj16) ∧ Aside0 (wc.heap[gb338]? = some (.cells #[(.slice (some ad342) l0_0.length c0_0), (.slice A0_1 l0_1.length c0_1)] 25 (0, 0))) ∧ Aside0 (wc.heap[gb343]? = some (.cells #[.int .i64 ((rd_T48 l0_0 x4_2).f0), (.slice A342_1 ((rd_T48 l0_0 x4_2).f1).length c342_1)] 48 (0, 0))) ∧ Aside0 (Below w.heap.size w wc))
          case first =>
           have H := HC23.out; clear HC23; obtain ⟨t344, A28, H⟩ := ob H
           by_cases c29 : t344 = true
           ·subst c29; rw [if_pos rfl] at H; have H' := Aside0.mk H; clear H; have hnb30 := NB343_338.out; have hnc30 := NB338_343.out; obtain ⟨hcz31_0, hcz31_1, hfz31_0, hfz31_1⟩ := b2 (w := w25) BK343
            go_wp2_with (first | ((with_reducible refine gate_callee (f := 38) rfl ?_); refine gl (some 41) Tryd.func38 #[.int .i64 ((rd_T48 l0_0 x4_2).f0), .int .i64 1, .int .i64 16] ?_; (with_reducible refine (skewbaldref00_In.calls ((rd_T48 l0_0 x4_2).f0) 1 16 true _ A28.out).mono ?_); rintro e w' ⟨rfl, ⟨nd, rfl⟩⟩; refine ⟨_, rfl, ?_⟩))
            go_meet
            case rel => exact ⟨_, (decide ((((rd_T48 l0_0 x4_2).f1).length : Int) ≤ 3)), sm, H', ⟨by have := HJ1.out; have := HK2.out; have := HJ16.out; first | omega | exact Nat.le_refl _⟩, ⟨by (with_reducible repeat (first | refine blk_drewN ?_ _ | refine blk_drew ?_ | refine blk_alloc ?_ _)); refine blk_far ?_ NB338_343.out _; (with_reducible repeat (first | refine blk_drewN ?_ _ | refine blk_drew ?_ | refine blk_alloc ?_ _)); refine blk_far ?_ NB338_343.out _; (with_reducible repeat (first | refine blk_drewN ?_ _ | refine blk_drew ?_ | refine blk_alloc ?_ _)); exact BK338.out⟩, ⟨by (with_reducible repeat (first | refine blk_drewN ?_ _ | refine blk_drew ?_ | refine blk_alloc ?_ _)); refine blk_put (cs := #[.int .i64 ((rd_T48 l0_0 x4_2).f0), .slice none 0 0]) ?_ 1 _ rfl; (with_reducible repeat (first | refine blk_drewN ?_ _ | refine blk_drew ?_ | refine blk_alloc ?_ _)); refine blk_put (cs := #[.int .i64 0, .slice none 0 0]) ?_ 0 _ rfl; (with_reducible repeat (first | refine blk_drewN ?_ _ | refine blk_drew ?_ | refine blk_alloc ?_ _)); exact BK343.out⟩, ⟨bl⟩⟩
           ·replace c29 := Bool.eq_false_iff.mpr c29; subst c29
            rw [if_neg (show ¬ (false = true) by decide)] at H
            have H' := Aside0.mk H; clear H; have hnb32 := NB343_338.out; have hnc32 := NB338_343.out; obtain ⟨hcz33_0, hcz33_1, hfz33_0, hfz33_1⟩ := b2 (w := w25) BK343
            go_wp2_with (first | ((with_reducible refine gate_callee (f := 38) rfl ?_); refine gl (some 41) Tryd.func38 #[.int .i64 ((rd_T48 l0_0 x4_2).f0), .int .i64 1, .int .i64 16] ?_; (with_reducible refine (skewbaldref00_In.calls ((rd_T48 l0_0 x4_2).f0) 1 16 false _ A28.out).mono ?_); rintro e w' ⟨rfl, ⟨nd, rfl⟩⟩; refine ⟨_, rfl, ?_⟩))
            go_meet
            case rel => exact ⟨_, (false), sm, H', ⟨by have := HJ1.out; have := HK2.out; have := HJ16.out; first | omega | exact Nat.le_refl _⟩, ⟨by (with_reducible repeat (first | refine blk_drewN ?_ _ | refine blk_drew ?_ | refine blk_alloc ?_ _)); refine blk_far ?_ NB338_343.out _; (with_reducible repeat (first | refine blk_drewN ?_ _ | refine blk_drew ?_ | refine blk_alloc ?_ _)); refine blk_far ?_ NB338_343.out _; (with_reducible repeat (first | refine blk_drewN ?_ _ | refine blk_drew ?_ | refine blk_alloc ?_ _)); exact BK338.out⟩, ⟨by (with_reducible repeat (first | refine blk_drewN ?_ _ | refine blk_drew ?_ | refine blk_alloc ?_ _)); refine blk_put (cs := #[.int .i64 ((rd_T48 l0_0 x4_2).f0), .slice none 0 0]) ?_ 1 _ rfl; (with_reducible repeat (first | refine blk_drewN ?_ _ | refine blk_drew ?_ | refine blk_alloc ?_ _)); refine blk_put (cs := #[.int .i64 0, .slice none 0 0]) ?_ 0 _ rfl; (with_reducible repeat (first | refine blk_drewN ?_ _ | refine blk_drew ?_ | refine blk_alloc ?_ _)); exact BK343.out⟩, ⟨bl⟩⟩
          case rest =>
           clear HC23; (try clear c1); (try clear c2); (try clear p2); (try clear c3); (try clear p3); (try clear q3); (try clear hx3); (try clear c5); (try clear c5b0); (try clear c5b1); (try clear c7); (try clear c18); (try clear c20); (try clear c21); (try clear c21b0); (try clear c22); (try clear c22b0); (try clear c26); (try clear c29); (try clear c30); (try clear c32); (try clear hcz11_0); (try clear hcz11_1); (try clear hcz12_0); (try clear hcz12_1); (try clear hcz14_0); (try clear hcz14_1); (try clear hcz15_0); (try clear hcz15_1); (try clear hcz19_0); (try clear hcz19_1); (try clear hcz24_0); (try clear hcz24_1); (try clear hcz27_0); (try clear hcz27_1); (try clear hcz31_0); (try clear hcz31_1); (try clear hcz33_0); (try clear hcz33_1); (try clear hcz9_0); (try clear hcz9_1); (try clear hfz11_0); (try clear hfz11_1); (try clear hfz12_0); (try clear hfz12_1); (try clear hfz14_0); (try clear hfz14_1); (try clear hfz15_0); (try clear hfz15_1); (try clear hfz19_0); (try clear hfz19_1); (try clear hfz24_0); (try clear hfz24_1); (try clear hfz27_0); (try clear hfz27_1); (try clear hfz31_0); (try clear hfz31_1); (try clear hfz33_0); (try clear hfz33_1); (try clear hfz9_0); (try clear hfz9_1); (try clear hx342_0); (try clear hx342_1); (try clear p342); (try clear q342)
           obtain ⟨kq, x3_22, rfl, HA, HJ22, BK338, BK343, HB⟩ := hcut
           cases kq with
           | zero => exact absurd HA.out (by simp [skewbaldlaw01_sound.j3])
           | succ kj22 =>
            have H := HA.out; clear HA
            simp only [skewbaldlaw01_sound.j3] at H
            have H' := Aside0.mk H; clear H
            go_wp2
            go_loopg [3, 6] kj22 (fun kq v3 v6 w' => ∃ (x3_5 : Bool) (x6_5 : Int), v3 = .bool x3_5 ∧ v6 = .int .i64 x6_5 ∧ Aside0 (skewbaldlaw01_sound.l1 kq x3_5 x4_2 x6_5 l0_0 l0_1 ((rd_T48 l0_0 x4_2).f0) ((rd_T48 l0_0 x4_2).f1) = some r) ∧ Aside0 (kq ≤ kj22) ∧ Aside0 (w'.heap[gb338]? = some (.cells #[(.slice (some ad342) l0_0.length c0_0), (.slice A0_1 l0_1.length c0_1)] 25 (0, 0))) ∧ Aside0 (w'.heap[gb343]? = some (.cells #[.int .i64 ((rd_T48 l0_0 x4_2).f0), (.slice A342_1 ((rd_T48 l0_0 x4_2).f1).length c342_1)] 48 (0, 0))) ∧ Aside0 (Below w.heap.size w w'))
            case atStart => exact ⟨(x3_22), (0), sm, sm, H', ⟨Nat.le_refl _⟩, ⟨bk⟩, ⟨bk⟩, ⟨bl⟩⟩
            case round =>
             clear H'; (try clear c1); (try clear c2); (try clear p2); (try clear c3); (try clear p3); (try clear q3); (try clear hx3); (try clear c5); (try clear c5b0); (try clear c5b1); (try clear c7); (try clear c18); (try clear c20); (try clear c21); (try clear c21b0); (try clear c22); (try clear c22b0); (try clear c26); (try clear c29); (try clear c30); (try clear c32); (try clear hcz11_0); (try clear hcz11_1); (try clear hcz12_0); (try clear hcz12_1); (try clear hcz14_0); (try clear hcz14_1); (try clear hcz15_0); (try clear hcz15_1); (try clear hcz19_0); (try clear hcz19_1); (try clear hcz24_0); (try clear hcz24_1); (try clear hcz27_0); (try clear hcz27_1); (try clear hcz31_0); (try clear hcz31_1); (try clear hcz33_0); (try clear hcz33_1); (try clear hcz9_0); (try clear hcz9_1); (try clear hfz11_0); (try clear hfz11_1); (try clear hfz12_0); (try clear hfz12_1); (try clear hfz14_0); (try clear hfz14_1); (try clear hfz15_0); (try clear hfz15_1); (try clear hfz19_0); (try clear hfz19_1); (try clear hfz24_0); (try clear hfz24_1); (try clear hfz27_0); (try clear hfz27_1); (try clear hfz31_0); (try clear hfz31_1); (try clear hfz33_0); (try clear hfz33_1); (try clear hfz9_0); (try clear hfz9_1); (try clear hx342_0); (try clear hx342_1); (try clear p342); (try clear q342)
             obtain ⟨x3_5, x6_5, rfl, rfl, HA, HK5, BK338, BK343, HB⟩ := hrel
             cases gk with
             | zero => exact absurd HA.out (by simp [skewbaldlaw01_sound.l1])
             | succ k5 =>
              have H := HA.out; clear HA
              simp only [skewbaldlaw01_sound.l1] at H
              by_cases c34 : x3_5 = true
              ·subst c34; rw [if_pos rfl] at H
               by_cases c35 : x6_5 < (((rd_T48 l0_0 x4_2).f1).length : Int)
               ·rw [if_pos c35] at H; have c35b0 := decide_eq_true c35; clear c35
                by_cases c36 : 0 ≤ x6_5
                ·rw [if_pos c36] at H; have c36b0 := decide_eq_true c36; clear c36; obtain ⟨t346, A37, H⟩ := ob H; have H' := Aside0.mk H; clear H; have hnb38 := NB343_338.out; have hnc38 := NB338_343.out; obtain ⟨hcz39_0, hcz39_1, hfz39_0, hfz39_1⟩ := b2 (w := wr) BK343
                 try go_wp2
                 replace BK338 := Aside0.mk (blk_drew BK338.out); replace BK343 := Aside0.mk (blk_drew BK343.out); replace HB := Aside0.mk (below_drew1 HB.out)
                 have p345 : 0 ≤ (x6_5 : Int) := od
                 have q345 : x6_5 < (((rd_T48 l0_0 x4_2).f1).length : Int) := od
                 obtain ⟨ad345, e345, hx345_0, hx345_1⟩ := at_T60 HR342_1.out x6_5 p345 q345; have hw345_1 := hx345_1; have hw345_0 := hx345_0
                 cases e345
                 replace hx345_0 := cm HB hx345_0; replace hx345_1 := cm HB hx345_1; replace p345 := eq_true p345; replace q345 := eq_true q345
                 refine start_ (n := 10) (S := fun w' => w'.cell? ⟨gb343, 0, none⟩ = some (.int .i64 ((rd_T48 l0_0 x4_2).f0)) ∧ w'.cell? ⟨gb343, 1, none⟩ = some (.slice (some ad345) ((rd_T48 l0_0 x4_2).f1).length c342_1) ∧ w'.cell? (ad345.add ((x6_5).toNat * 2)) = some (.int .i64 ((rd_T60 ((rd_T48 l0_0 x4_2).f1) x6_5).f0)) ∧ w'.cell? ⟨(ad345.add ((x6_5).toNat * 2)).block, (ad345.add ((x6_5).toNat * 2)).off + 1, none⟩ = some (.int .i64 ((rd_T60 ((rd_T48 l0_0 x4_2).f1) x6_5).f1))) (ds := []) #[false, false, false, false, false, false, false, false, false, false] (by kernel_rfl) rfl rfl ⟨bq BK343 0, bq BK343 1, (cm HB hw345_0 :), (cm HB hw345_1 :)⟩ (fun hHeld => ?_); refine with_tabW skewbaldlaw01_sound.tab10 skewbaldlaw01_sound.bits10 (fun HT_ HW_ => ?_)
                 generalize wr.drew = w40 at BK338 BK343 HB hx345_0 hx345_1 hHeld ⊢
                 refine pu_ (i := 0) (N := some 58) (qa_ 10 1) ?_
                 refine pu_ (i := 2) (N := some 60) (qa_ 10 5) ?_
                 refine pu_ (i := 5) (N := some 63) (qa_ 10 37) ?_
                 refine tk_ (i := 1) (N := some 59) (qa_ 10 39) hHeld ?_
                 refine pu_ (i := 3) (N := some 61) (qa_ 10 47) ?_
                 refine tk_ (i := 4) (N := some 62) (qa_ 10 63) hHeld ?_
                 refine tk_ (i := 6) (N := some 64) (qa_ 10 127) hHeld ?_
                 refine pu_ (i := 7) (N := some 65) (qa_ 10 255) ?_
                 refine on_ (i := 8) (N := some 66) (qa_ 10 511) (fun K hK => ?_)
                 refine goes_ Tryd.func73 (by kernel_rfl) rfl #[.agg #[.int .i64 ((rd_T60 ((rd_T48 l0_0 x4_2).f1) x6_5).f0), .int .i64 ((rd_T60 ((rd_T48 l0_0 x4_2).f1) x6_5).f1)], .int .i64 0, .int .i64 (wrap64 (((rd_T48 l0_0 x4_2).f0) - 1))] (by rfl) rfl rfl (by (try simp only [List.map_toArray, List.map_cons, List.map_nil]); first | done | rfl | (simp only [List.length_drop, List.length_take]; rfl)) ?_
                 with_reducible refine (skewbaldref00_Ordered.calls ((rd_T60 ((rd_T48 l0_0 x4_2).f1) x6_5).f0) ((rd_T60 ((rd_T48 l0_0 x4_2).f1) x6_5).f1) 0 (wrap64 (((rd_T48 l0_0 x4_2).f0) - 1)) t346 _ A37.out).mono ?_
                 rintro e w41 ⟨rfl, hb⟩
                 refine ⟨_, rfl, ?_⟩
                 replace BK338 := nb BK338 hb; replace BK343 := nb BK343 hb; replace HB := hs HB hb; (try clear hb); (try clear hb2); (try clear hk); (try clear hi)
                 refine hK.out _ _ ⟨bq BK343 0, bq BK343 1, (cm HB hw345_0 :), (cm HB hw345_1 :)⟩ (fun hHeld => ?_)
                 clear hK K
                 refine nm_ (some 66) ?_
                 refine pu_ (i := 9) (N := some 3) (qa_ 10 1023) ?_
                 refine done_ (done_of HT_.out (by kernel_rfl)) ?_
                 try go_wp2
                 go_roundg k5
                 case measure => have := HJ1.out; have := HK2.out; have := HJ16.out; have := HJ22.out; have := HK5.out; omega
                 case rel => exact ⟨(t346), (wrap64 (x6_5 + 1)), sm, sm, H', ⟨by have := HJ1.out; have := HK2.out; have := HJ16.out; have := HJ22.out; have := HK5.out; omega⟩, ⟨bk⟩, ⟨bk⟩, ⟨bl⟩⟩
                ·rw [if_neg c36] at H
                 exact absurd H (by simp)
               ·rw [if_neg c35] at H
                have c35b0 : decide (x6_5 < (((rd_T48 l0_0 x4_2).f1).length : Int)) = false := decide_eq_false c35
                clear c35; have H' := Aside0.mk H; clear H; have hnb42 := NB343_338.out; have hnc42 := NB338_343.out; obtain ⟨hcz43_0, hcz43_1, hfz43_0, hfz43_1⟩ := b2 (w := wr) BK343
                go_wp2
                go_roundg k5
                case measure => have := HJ1.out; have := HK2.out; have := HJ16.out; have := HJ22.out; have := HK5.out; omega
                case rel => exact ⟨(true), (wrap64 (x4_2 + 1)), sm, sm, H', ⟨by have := HJ1.out; have := HK2.out; have := HJ16.out; have := HJ22.out; have := HK5.out; omega⟩, ⟨bk⟩, ⟨bl⟩⟩
              ·replace c34 := Bool.eq_false_iff.mpr c34; subst c34
               rw [if_neg (show ¬ (false = true) by decide)] at H
               have H' := Aside0.mk H; clear H
               go_wp2
               go_roundg k5
               case measure => have := HJ1.out; have := HK2.out; have := HJ16.out; have := HJ22.out; have := HK5.out; omega
               case rel => exact ⟨(false), (wrap64 (x4_2 + 1)), sm, sm, H', ⟨by have := HJ1.out; have := HK2.out; have := HJ16.out; have := HJ22.out; have := HK5.out; omega⟩, ⟨bk⟩, ⟨bl⟩⟩
         ·rw [if_neg c22] at H
          exact absurd H (by simp)
        ·rw [if_neg c21] at H
         exact absurd H (by simp)
       ·replace c20 := Bool.eq_false_iff.mpr c20; subst c20
        rw [if_neg (show ¬ (false = true) by decide)] at H
        have H' := Aside0.mk H; clear H
        go_wp2
        go_loopg [3, 7] kj16 (fun kq v3 v7 w' => ∃ (x3_4 : Bool) (x7_4 : Int), v3 = .bool x3_4 ∧ v7 = .int .i64 x7_4 ∧ Aside0 (skewbaldlaw01_sound.l2 kq x3_4 x7_4 l0_0 l0_1 = some r) ∧ Aside0 (kq ≤ kj16) ∧ Aside0 (w'.heap[gb338]? = some (.cells #[(.slice A0_0 l0_0.length c0_0), (.slice A0_1 l0_1.length c0_1)] 25 (0, 0))) ∧ Aside0 (Below w.heap.size w w'))
        case atStart => exact ⟨(x3_2), (0), sm, sm, H', ⟨Nat.le_refl _⟩, ⟨bk⟩, ⟨bl⟩⟩
        case round =>
         clear H'; (try clear c1); (try clear c2); (try clear p2); (try clear c3); (try clear p3); (try clear q3); (try clear hx3); (try clear c4); (try clear c5); (try clear c5b0); (try clear c5b1); (try clear p6); (try clear c7); (try clear c18); (try clear c20); (try clear c21); (try clear c21b0); (try clear c22); (try clear c22b0); (try clear c26); (try clear c29); (try clear c30); (try clear c32); (try clear c34); (try clear p34); (try clear q34); (try clear hx34); (try clear c35); (try clear c35b0); (try clear c36); (try clear c36b0); (try clear c38); (try clear c42); (try clear hcz11_0); (try clear hcz11_1); (try clear hcz12_0); (try clear hcz12_1); (try clear hcz14_0); (try clear hcz14_1); (try clear hcz15_0); (try clear hcz15_1); (try clear hcz19_0); (try clear hcz19_1); (try clear hcz24_0); (try clear hcz24_1); (try clear hcz27_0); (try clear hcz27_1); (try clear hcz31_0); (try clear hcz31_1); (try clear hcz33_0); (try clear hcz33_1); (try clear hcz39_0); (try clear hcz39_1); (try clear hcz43_0); (try clear hcz43_1); (try clear hcz9_0); (try clear hcz9_1); (try clear hfz11_0); (try clear hfz11_1); (try clear hfz12_0); (try clear hfz12_1); (try clear hfz14_0); (try clear hfz14_1); (try clear hfz15_0); (try clear hfz15_1); (try clear hfz19_0); (try clear hfz19_1); (try clear hfz24_0); (try clear hfz24_1); (try clear hfz27_0); (try clear hfz27_1); (try clear hfz31_0); (try clear hfz31_1); (try clear hfz33_0); (try clear hfz33_1); (try clear hfz39_0); (try clear hfz39_1); (try clear hfz43_0); (try clear hfz43_1); (try clear hfz9_0); (try clear hfz9_1); (try clear hx342_0); (try clear hx342_1); (try clear hx345_0); (try clear hx345_1); (try clear p342); (try clear p345); (try clear q342); (try clear q345)
         obtain ⟨x3_4, x7_4, rfl, rfl, HA, HK4, BK338, HB⟩ := hrel
         cases gk with
         | zero => exact absurd HA.out (by simp [skewbaldlaw01_sound.l2])
         | succ k4 =>
          have H := HA.out; clear HA
          simp only [skewbaldlaw01_sound.l2] at H
          have HC44 := Aside0.mk H; clear H
          go_upto_region 12 with (fail)
          go_cut [74] (fun v74 wc => ∃ (kq : Nat) (x74_43 : Bool), v74 = .bool x74_43 ∧ Aside0 (skewbaldlaw01_sound.j6 kq x3_4 x7_4 x74_43 l0_0 l0_1 = some r) ∧ Aside0 (kq ≤ k4) ∧ Aside0 (wc.heap[gb338]? = some (.cells #[(.slice A0_0 l0_0.length c0_0), (.slice A0_1 l0_1.length c0_1)] 25 (0, 0))) ∧ Aside0 (Below w.heap.size w wc))
          case first =>
           have H := HC44.out; clear HC44
           by_cases c45 : x3_4 = true
           ·subst c45; rw [if_pos rfl] at H; have H' := Aside0.mk H; clear H; obtain ⟨hcz46_0, hcz46_1, hfz46_0, hfz46_1⟩ := b2 (w := wr) BK338
            go_wp2
            go_meet
            case rel => exact ⟨_, (decide (x7_4 < (l0_1.length : Int))), sm, H', ⟨by have := HJ1.out; have := HK2.out; have := HJ16.out; have := HK4.out; first | omega | exact Nat.le_refl _⟩, ⟨bk⟩, ⟨bl⟩⟩
           ·replace c45 := Bool.eq_false_iff.mpr c45; subst c45
            rw [if_neg (show ¬ (false = true) by decide)] at H
            have H' := Aside0.mk H; clear H
            go_wp2
            go_meet
            case rel => exact ⟨_, (false), sm, H', ⟨by have := HJ1.out; have := HK2.out; have := HJ16.out; have := HK4.out; first | omega | exact Nat.le_refl _⟩, ⟨bk⟩, ⟨bl⟩⟩
          case rest =>
           clear HC44; (try clear c1); (try clear c2); (try clear p2); (try clear c3); (try clear p3); (try clear q3); (try clear hx3); (try clear c4); (try clear c5); (try clear c5b0); (try clear c5b1); (try clear p6); (try clear c7); (try clear c18); (try clear c20); (try clear c21); (try clear c21b0); (try clear c22); (try clear c22b0); (try clear c26); (try clear c29); (try clear c30); (try clear c32); (try clear c34); (try clear p34); (try clear q34); (try clear hx34); (try clear c35); (try clear c35b0); (try clear c36); (try clear c36b0); (try clear c38); (try clear c42); (try clear c45); (try clear hcz11_0); (try clear hcz11_1); (try clear hcz12_0); (try clear hcz12_1); (try clear hcz14_0); (try clear hcz14_1); (try clear hcz15_0); (try clear hcz15_1); (try clear hcz19_0); (try clear hcz19_1); (try clear hcz24_0); (try clear hcz24_1); (try clear hcz27_0); (try clear hcz27_1); (try clear hcz31_0); (try clear hcz31_1); (try clear hcz33_0); (try clear hcz33_1); (try clear hcz39_0); (try clear hcz39_1); (try clear hcz43_0); (try clear hcz43_1); (try clear hcz46_0); (try clear hcz46_1); (try clear hcz9_0); (try clear hcz9_1); (try clear hfz11_0); (try clear hfz11_1); (try clear hfz12_0); (try clear hfz12_1); (try clear hfz14_0); (try clear hfz14_1); (try clear hfz15_0); (try clear hfz15_1); (try clear hfz19_0); (try clear hfz19_1); (try clear hfz24_0); (try clear hfz24_1); (try clear hfz27_0); (try clear hfz27_1); (try clear hfz31_0); (try clear hfz31_1); (try clear hfz33_0); (try clear hfz33_1); (try clear hfz39_0); (try clear hfz39_1); (try clear hfz43_0); (try clear hfz43_1); (try clear hfz46_0); (try clear hfz46_1); (try clear hfz9_0); (try clear hfz9_1); (try clear hx342_0); (try clear hx342_1); (try clear hx345_0); (try clear hx345_1); (try clear p342); (try clear p345); (try clear q342); (try clear q345)
           obtain ⟨kq, x74_43, rfl, HA, HJ43, BK338, HB⟩ := hcut
           cases kq with
           | zero => exact absurd HA.out (by simp [skewbaldlaw01_sound.j6])
           | succ kj43 =>
            have H := HA.out; clear HA
            simp only [skewbaldlaw01_sound.j6] at H
            by_cases c47 : x74_43 = true
            ·subst c47; rw [if_pos rfl] at H
             by_cases c48 : 0 ≤ x7_4
             ·rw [if_pos c48] at H; have c48b0 := decide_eq_true c48; clear c48
              by_cases c49 : x7_4 < (l0_1.length : Int)
              ·rw [if_pos c49] at H; have c49b0 := decide_eq_true c49; clear c49; obtain ⟨t349, A50, H⟩ := ob H
               by_cases c51 : t349 = true
               ·subst c51; rw [if_pos rfl] at H
                by_cases c52 : (((rd_T50 l0_1 x7_4).f1).length : Int) ≤ 3
                ·rw [if_pos c52] at H; have c52b0 := decide_eq_true c52
                 have c52b1 : decide (((rd_T50 l0_1 x7_4).f1).length ≤ 3) = true := decide_eq_true (by omega)
                 clear c52; obtain ⟨t350, A53, H⟩ := ob H; have H' := Aside0.mk H; clear H; obtain ⟨hcz54_0, hcz54_1, hfz54_0, hfz54_1⟩ := b2 (w := wc) BK338
                 have p347 : 0 ≤ (x7_4 : Int) := od
                 have q347 : x7_4 < (l0_1.length : Int) := od
                 obtain ⟨ad347, A347_1, c347_1, e347, hx347_0, hx347_1, hx347_2, hl347_1, hi347_1⟩ := at_T50 HR0_1.out x7_4 p347 q347
                 cases e347
                 replace hx347_0 := cm HB hx347_0; replace hx347_1 := cm HB hx347_1; replace hx347_2 := cm HB hx347_2; have HR347_1 := Aside0.mk hi347_1; have HC347_1 := Aside0.mk hl347_1; clear hi347_1 hl347_1; replace p347 := eq_true p347; replace q347 := eq_true q347
                 go_wp2_with (first | ((with_reducible refine gate_dst (N := 8) rfl ?_); (try (refine gate_guard (by rfl) ?_; dsimp only)); refine bx 8 #[.int .i64 0, .slice none 0 0, .bool false] 50 ?_; intro gb348 hg w55 hbox hb; have BK348 := Aside0.mk hbox; have GW348 := gw hg HB; have GE348 := gw hg HB; replace HB := hs HB hb; have NB338_348 := nl hg BK338; have NB348_338 := ng hg BK338; replace BK338 := nb BK338 hb; clear hb hbox hg; have hnb56 := NB348_338.out; have hnc56 := NB338_348.out; obtain ⟨hcz57_0, hcz57_1, hcz57_2, hfz57_0, hfz57_1, hfz57_2⟩ := b3 (w := w55) BK348) | ((with_reducible refine gate_callee (f := 38) rfl ?_); refine gl (some 84) Tryd.func38 #[.int .i64 ((rd_T50 l0_1 x7_4).f0), .int .i64 1, .int .i64 12] ?_; (with_reducible refine (skewbaldref00_In.calls ((rd_T50 l0_1 x7_4).f0) 1 12 true _ A50.out).mono ?_); rintro e w' ⟨rfl, ⟨nd, rfl⟩⟩; refine ⟨_, rfl, ?_⟩) | (go_at_call 39; (with_reducible refine (skewbaldref00_Grows.calls kj43 _ _ ((rd_T50 l0_1 x7_4).f1) ((rd_T50 l0_1 x7_4).f0) t350 _ ?side1 ?side2 A53.out).mono ?_); (case side1 => exact Kd.C_below HR347_1.out bl); (case side2 => exact HC347_1.out); rintro e w' ⟨rfl, ⟨nd, rfl⟩⟩))
                 go_roundg kj43
                 case measure => have := HJ1.out; have := HK2.out; have := HJ16.out; have := HK4.out; have := HJ43.out; omega
                 case rel => exact ⟨(t350), (wrap64 (x7_4 + 1)), sm, sm, H', ⟨by have := HJ1.out; have := HK2.out; have := HJ16.out; have := HK4.out; have := HJ43.out; omega⟩, ⟨by (with_reducible repeat (first | refine blk_drewN ?_ _ | refine blk_drew ?_ | refine blk_alloc ?_ _)); refine blk_far ?_ NB338_348.out _; (with_reducible repeat (first | refine blk_drewN ?_ _ | refine blk_drew ?_ | refine blk_alloc ?_ _)); refine blk_far ?_ NB338_348.out _; (with_reducible repeat (first | refine blk_drewN ?_ _ | refine blk_drew ?_ | refine blk_alloc ?_ _)); refine blk_far ?_ NB338_348.out _; (with_reducible repeat (first | refine blk_drewN ?_ _ | refine blk_drew ?_ | refine blk_alloc ?_ _)); exact BK338.out⟩, ⟨bl⟩⟩
                ·rw [if_neg c52] at H
                 have c52b0 : decide ((((rd_T50 l0_1 x7_4).f1).length : Int) ≤ 3) = false := decide_eq_false c52
                 have c52b1 : decide (((rd_T50 l0_1 x7_4).f1).length ≤ 3) = false := decide_eq_false (by omega)
                 clear c52; have H' := Aside0.mk H; clear H; obtain ⟨hcz58_0, hcz58_1, hfz58_0, hfz58_1⟩ := b2 (w := wc) BK338
                 have p347 : 0 ≤ (x7_4 : Int) := od
                 have q347 : x7_4 < (l0_1.length : Int) := od
                 obtain ⟨ad347, A347_1, c347_1, e347, hx347_0, hx347_1, hx347_2, hl347_1, hi347_1⟩ := at_T50 HR0_1.out x7_4 p347 q347
                 cases e347
                 replace hx347_0 := cm HB hx347_0; replace hx347_1 := cm HB hx347_1; replace hx347_2 := cm HB hx347_2; have HR347_1 := Aside0.mk hi347_1; have HC347_1 := Aside0.mk hl347_1; clear hi347_1 hl347_1; replace p347 := eq_true p347; replace q347 := eq_true q347
                 go_wp2_with (first | ((with_reducible refine gate_dst (N := 8) rfl ?_); (try (refine gate_guard (by rfl) ?_; dsimp only)); refine bx 8 #[.int .i64 0, .slice none 0 0, .bool false] 50 ?_; intro gb348 hg w59 hbox hb; have BK348 := Aside0.mk hbox; have GW348 := gw hg HB; have GE348 := gw hg HB; replace HB := hs HB hb; have NB338_348 := nl hg BK338; have NB348_338 := ng hg BK338; replace BK338 := nb BK338 hb; clear hb hbox hg; have hnb60 := NB348_338.out; have hnc60 := NB338_348.out; obtain ⟨hcz61_0, hcz61_1, hcz61_2, hfz61_0, hfz61_1, hfz61_2⟩ := b3 (w := w59) BK348) | ((with_reducible refine gate_callee (f := 38) rfl ?_); refine gl (some 84) Tryd.func38 #[.int .i64 ((rd_T50 l0_1 x7_4).f0), .int .i64 1, .int .i64 12] ?_; (with_reducible refine (skewbaldref00_In.calls ((rd_T50 l0_1 x7_4).f0) 1 12 true _ A50.out).mono ?_); rintro e w' ⟨rfl, ⟨nd, rfl⟩⟩; refine ⟨_, rfl, ?_⟩))
                 go_roundg kj43
                 case measure => have := HJ1.out; have := HK2.out; have := HJ16.out; have := HK4.out; have := HJ43.out; omega
                 case rel => exact ⟨(false), (wrap64 (x7_4 + 1)), sm, sm, H', ⟨by have := HJ1.out; have := HK2.out; have := HJ16.out; have := HK4.out; have := HJ43.out; omega⟩, ⟨by (with_reducible repeat (first | refine blk_drewN ?_ _ | refine blk_drew ?_ | refine blk_alloc ?_ _)); refine blk_far ?_ NB338_348.out _; (with_reducible repeat (first | refine blk_drewN ?_ _ | refine blk_drew ?_ | refine blk_alloc ?_ _)); refine blk_far ?_ NB338_348.out _; (with_reducible repeat (first | refine blk_drewN ?_ _ | refine blk_drew ?_ | refine blk_alloc ?_ _)); refine blk_far ?_ NB338_348.out _; (with_reducible repeat (first | refine blk_drewN ?_ _ | refine blk_drew ?_ | refine blk_alloc ?_ _)); exact BK338.out⟩, ⟨bl⟩⟩
               ·replace c51 := Bool.eq_false_iff.mpr c51; subst c51
                rw [if_neg (show ¬ (false = true) by decide)] at H
                have H' := Aside0.mk H; clear H; obtain ⟨hcz62_0, hcz62_1, hfz62_0, hfz62_1⟩ := b2 (w := wc) BK338
                have p347 : 0 ≤ (x7_4 : Int) := od
                have q347 : x7_4 < (l0_1.length : Int) := od
                obtain ⟨ad347, A347_1, c347_1, e347, hx347_0, hx347_1, hx347_2, hl347_1, hi347_1⟩ := at_T50 HR0_1.out x7_4 p347 q347
                cases e347
                replace hx347_0 := cm HB hx347_0; replace hx347_1 := cm HB hx347_1; replace hx347_2 := cm HB hx347_2; have HR347_1 := Aside0.mk hi347_1; have HC347_1 := Aside0.mk hl347_1; clear hi347_1 hl347_1; replace p347 := eq_true p347; replace q347 := eq_true q347
                go_wp2_with (first | ((with_reducible refine gate_dst (N := 8) rfl ?_); (try (refine gate_guard (by rfl) ?_; dsimp only)); refine bx 8 #[.int .i64 0, .slice none 0 0, .bool false] 50 ?_; intro gb348 hg w63 hbox hb; have BK348 := Aside0.mk hbox; have GW348 := gw hg HB; have GE348 := gw hg HB; replace HB := hs HB hb; have NB338_348 := nl hg BK338; have NB348_338 := ng hg BK338; replace BK338 := nb BK338 hb; clear hb hbox hg; have hnb64 := NB348_338.out; have hnc64 := NB338_348.out; obtain ⟨hcz65_0, hcz65_1, hcz65_2, hfz65_0, hfz65_1, hfz65_2⟩ := b3 (w := w63) BK348) | ((with_reducible refine gate_callee (f := 38) rfl ?_); refine gl (some 84) Tryd.func38 #[.int .i64 ((rd_T50 l0_1 x7_4).f0), .int .i64 1, .int .i64 12] ?_; (with_reducible refine (skewbaldref00_In.calls ((rd_T50 l0_1 x7_4).f0) 1 12 false _ A50.out).mono ?_); rintro e w' ⟨rfl, ⟨nd, rfl⟩⟩; refine ⟨_, rfl, ?_⟩))
                go_roundg kj43
                case measure => have := HJ1.out; have := HK2.out; have := HJ16.out; have := HK4.out; have := HJ43.out; omega
                case rel => exact ⟨(false), (wrap64 (x7_4 + 1)), sm, sm, H', ⟨by have := HJ1.out; have := HK2.out; have := HJ16.out; have := HK4.out; have := HJ43.out; omega⟩, ⟨by (with_reducible repeat (first | refine blk_drewN ?_ _ | refine blk_drew ?_ | refine blk_alloc ?_ _)); refine blk_far ?_ NB338_348.out _; (with_reducible repeat (first | refine blk_drewN ?_ _ | refine blk_drew ?_ | refine blk_alloc ?_ _)); refine blk_far ?_ NB338_348.out _; (with_reducible repeat (first | refine blk_drewN ?_ _ | refine blk_drew ?_ | refine blk_alloc ?_ _)); refine blk_far ?_ NB338_348.out _; (with_reducible repeat (first | refine blk_drewN ?_ _ | refine blk_drew ?_ | refine blk_alloc ?_ _)); exact BK338.out⟩, ⟨bl⟩⟩
              ·rw [if_neg c49] at H
               exact absurd H (by simp)
             ·rw [if_neg c48] at H
              exact absurd H (by simp)
            ·replace c47 := Bool.eq_false_iff.mpr c47; subst c47
             rw [if_neg (show ¬ (false = true) by decide)] at H
             obtain rfl := Option.some.inj H
             go_wp2
             go_ret
             exact ⟨by first | rfl | (simp [errW_none, errW_some] <;> rfl) | (simp [*, errW_none, errW_some] <;> rfl), bl⟩
mutual
def skewbaldref01_Check.j0 : Nat → Bool → List (S48) → List (S50) → Option (Int)
 | 0, _, _, _ => none
 | k + 1, x3, x106000, x106001 => skewbaldref01_Check.l0 k x3 0 x106000 x106001
def skewbaldref01_Check.l0 : Nat → Bool → Int → List (S48) → List (S50) → Option (Int)
 | 0, _, _, _, _ => none
 | k + 1, x3, x4, x106000, x106001 => if x3 = true then (skewbaldref01_Check.j2 k x3 x4 (decide (x4 < (x106000.length : Int))) x106000 x106001) else (skewbaldref01_Check.j2 k x3 x4 false x106000 x106001)
def skewbaldref01_Check.j2 : Nat → Bool → Int → Bool → List (S48) → List (S50) → Option (Int)
 | 0, _, _, _, _, _ => none
 | k + 1, x3, x4, x26, x106000, x106001 => if x26 = true then (if 0 ≤ x4 then (if x4 < (x106000.length : Int) then ((skewbaldref00_In.f ((rd_T48 x106000 x4).f0) 1 16).bind fun t110 => (if t110 = true then (skewbaldref01_Check.j3 k (decide ((((rd_T48 x106000 x4).f1).length : Int) ≤ 3)) x4 x106000 x106001 ((rd_T48 x106000 x4).f0) ((rd_T48 x106000 x4).f1)) else (skewbaldref01_Check.j3 k false x4 x106000 x106001 ((rd_T48 x106000 x4).f0) ((rd_T48 x106000 x4).f1)))) else (none)) else (none)) else (skewbaldref01_Check.l2 k x3 0 x106000 x106001)
def skewbaldref01_Check.j3 : Nat → Bool → Int → List (S48) → List (S50) → Int → List (S60) → Option (Int)
 | 0, _, _, _, _, _, _ => none
 | k + 1, x3, x4, x106000, x106001, x110000, x110001 => skewbaldref01_Check.l1 k x3 x4 0 x106000 x106001 x110000 x110001
def skewbaldref01_Check.l1 : Nat → Bool → Int → Int → List (S48) → List (S50) → Int → List (S60) → Option (Int)
 | 0, _, _, _, _, _, _, _ => none
 | k + 1, x3, x4, x6, x106000, x106001, x110000, x110001 => if x3 = true then (if x6 < (x110001.length : Int) then (if 0 ≤ x6 then ((skewbaldref00_Ordered.f ((rd_T60 x110001 x6).f0) ((rd_T60 x110001 x6).f1) 0 (wrap64 (x110000 - 1))).bind fun t112 => (if t112 = true then (skewbaldref01_Check.l1 k (decide ((wrap64 (((rd_T60 x110001 x6).f1) - ((rd_T60 x110001 x6).f0))) ≤ 6)) x4 (wrap64 (x6 + 1)) x106000 x106001 x110000 x110001) else (skewbaldref01_Check.l1 k false x4 (wrap64 (x6 + 1)) x106000 x106001 x110000 x110001))) else (none)) else (skewbaldref01_Check.l0 k x3 (wrap64 (x4 + 1)) x106000 x106001)) else (skewbaldref01_Check.l0 k x3 (wrap64 (x4 + 1)) x106000 x106001)
def skewbaldref01_Check.l2 : Nat → Bool → Int → List (S48) → List (S50) → Option (Int)
 | 0, _, _, _, _ => none
 | k + 1, x3, x7, x106000, x106001 => if x3 = true then (skewbaldref01_Check.j6 k x3 x7 (decide (x7 < (x106001.length : Int))) x106000 x106001) else (skewbaldref01_Check.j6 k x3 x7 false x106000 x106001)
def skewbaldref01_Check.j6 : Nat → Bool → Int → Bool → List (S48) → List (S50) → Option (Int)
 | 0, _, _, _, _, _ => none
 | k + 1, x3, x7, x85, x106000, x106001 => if x85 = true then (if 0 ≤ x7 then (if x7 < (x106001.length : Int) then ((skewbaldref00_In.f ((rd_T50 x106001 x7).f0) 1 12).bind fun t117 => (if t117 = true then (if (((rd_T50 x106001 x7).f1).length : Int) ≤ 3 then ((skewbaldref00_Grows.f k ((rd_T50 x106001 x7).f1) ((rd_T50 x106001 x7).f0)).bind fun t118 => (skewbaldref01_Check.l2 k t118 (wrap64 (x7 + 1)) x106000 x106001)) else (skewbaldref01_Check.l2 k false (wrap64 (x7 + 1)) x106000 x106001)) else (skewbaldref01_Check.l2 k false (wrap64 (x7 + 1)) x106000 x106001))) else (none)) else (none)) else (if x3 = true then (some 0) else (some 10))
end
def skewbaldref01_Check.f (k : Nat) (l0_0 : List (S48)) (l0_1 : List (S50)) : Option (Int) := (skewbaldref00_In.f (l0_0.length : Int) 1 3).bind fun t106 => (if t106 = true then ((skewbaldref00_In.f (l0_1.length : Int) 1 5).bind fun t107 => (skewbaldref01_Check.j0 k t107 l0_0 l0_1)) else (skewbaldref01_Check.j0 k false l0_0 l0_1))
def skewbaldref01_Check.T10 : Bool × List (List Nat × List Nat) := (true, [([], []), ([0], [0]), ([], []), ([1, 2], [1, 2]), ([3], [3]), ([], []), ([5], [5]), ([6], [6]), ([4, 7], [4, 7]), ([8, 8], [8]), ([9], [9]), ([10, 9], [9, 10]), ([9], [9]), ([11, 12, 9], [9, 11, 12]), ([13, 9], [9, 13]), ([14, 9], [9, 14]), ([9], [9]), ([16, 9], [9, 16]), ([9], [9]), ([17, 18, 9], [9, 17, 18]), ([19, 9], [9, 19]), ([20, 9], [9, 20]), ([15, 21, 9], [9, 15, 21]), ([22, 9], [9, 22]), ([9, 23], [9, 23]), ([24, 9, 0, 1, 2, 3, 4, 5, 6, 7, 8, 9, 10, 11, 12, 13, 14, 15, 16, 17, 18, 19, 20, 21, 22, 23, 24], [24])])
def skewbaldref01_Check.B10 : List Nat := [0, 1, 0, 7, 15, 0, 32, 96, 255, 511, 1023, 2047, 1023, 8191, 16383, 32767, 1023, 66559, 1023, 459775, 984063, 2032639, 4194303, 8388607, 16777215, 33554431]
theorem skewbaldref01_Check.tab10 : rtab .any (opsOf Tryd.f19 10) = skewbaldref01_Check.T10 := by kernel_rfl
theorem skewbaldref01_Check.bits10 : waitsOk skewbaldref01_Check.T10.2 skewbaldref01_Check.B10 = true := by kernel_rfl
def skewbaldref00_Find.l0 : Nat → List Int → Int → Int → Option (Int)
 | 0, _, _, _ => none
 | k + 1, x0, x1, x5 => if x5 < (x0.length : Int) then (if 0 ≤ x5 then (if (rd x0 x5) = x1 then (some x5) else (skewbaldref00_Find.l0 k x0 x1 (wrap64 (x5 + 1)))) else (none)) else (some (-1))
def skewbaldref00_Find.f (k : Nat) (l0 : List Int) (a1 : Int) : Option (Int) := skewbaldref00_Find.l0 k l0 a1 0
set_option maxHeartbeats 8000000 in
set_option maxRecDepth 100000 in
theorem skewbaldref00_Find.calls (k : Nat) (A0 : Option Addr) (c0 : Nat) (l0 : List Int) (a1 : Int) (r : Int) (w : World) (hr0 : Kd.C (Kd.int .i64) w A0 l0.length l0) (hc0 : l0.length ≤ c0) (h : skewbaldref00_Find.f k l0 a1 = some r) :
  Calls Tryd.prog 42 #[.slice A0 l0.length c0, .int .i64 a1] w fun e w' => e = .returned (.int .i64 r) ∧ Drawn0 w w' := by
 have HR0 := Aside0.mk hr0; have HC0 := Aside0.mk hc0; clear hr0 hc0
 have H : (skewbaldref00_Find.l0 k l0 a1 0) = some r := h
 clear h; have H' := Aside0.mk H; clear H
 go_enter Tryd.func42, Tryd.ntmps42
 go_wp2
 go_loopg [5] k (fun kq v5 w' => ∃ (x5_1 : Int), v5 = .int .i64 x5_1 ∧ Aside0 (skewbaldref00_Find.l0 kq l0 a1 x5_1 = some r) ∧ Aside0 (kq ≤ k) ∧ Drawn0 w w')
 case atStart => exact ⟨(0), sm, H', ⟨Nat.le_refl _⟩, by repeat (first | exact Drawn0.refl _ | apply Drawn0.step)⟩
 case round =>
  clear H'; (try clear p2); obtain ⟨x5_1, rfl, HA, HK1, ⟨m1, rfl⟩⟩ := hrel
  cases gk with
  | zero => exact absurd HA.out (by simp [skewbaldref00_Find.l0])
  | succ k1 =>
   have H := HA.out; clear HA
   simp only [skewbaldref00_Find.l0] at H
   by_cases c3 : x5_1 < (l0.length : Int)
   ·rw [if_pos c3] at H; have c3b0 := decide_eq_true c3; clear c3
    by_cases c4 : 0 ≤ x5_1
    ·rw [if_pos c4] at H; have c4b0 := decide_eq_true c4; clear c4
     by_cases c5 : (rd l0 x5_1) = a1
     ·rw [if_pos c5] at H
      have c5b0 : ((rd l0 x5_1) == a1) = true := beq_iff_eq.mpr c5
      have c5b1 : ((rd l0 x5_1) != a1) = false := bne_eq_false_iff_eq.mpr c5
      clear c5; obtain rfl := Option.some.inj H
      have p140 : 0 ≤ (x5_1 : Int) := od
      have q140 : x5_1 < (l0.length : Int) := od
      obtain ⟨ad140, e140, hx140_0⟩ := Kd.at_int HR0.out x5_1 p140 q140
      cases e140
      replace p140 := eq_true p140; replace q140 := eq_true q140
      go_wp2
      go_ret
      exact ⟨sm, by repeat (first | exact Drawn0.refl _ | apply Drawn0.step)⟩
     ·rw [if_neg c5] at H
      have c5b0 : ((rd l0 x5_1) == a1) = false := beq_eq_false_iff_ne.mpr c5
      have c5b1 : ((rd l0 x5_1) != a1) = true := bne_iff_ne.mpr c5
      have H' := Aside0.mk H; clear H
      have p140 : 0 ≤ (x5_1 : Int) := od
      have q140 : x5_1 < (l0.length : Int) := od
      obtain ⟨ad140, e140, hx140_0⟩ := Kd.at_int HR0.out x5_1 p140 q140
      cases e140
      replace p140 := eq_true p140; replace q140 := eq_true q140
      go_wp2
      go_roundg k1
      case measure => have := HK1.out; omega
      case rel => exact ⟨(wrap64 (x5_1 + 1)), sm, H', ⟨lo HK1⟩, by repeat (first | exact Drawn0.refl _ | apply Drawn0.step)⟩
    ·rw [if_neg c4] at H
     exact absurd H (by simp)
   ·rw [if_neg c3] at H
    have c3b0 : decide (x5_1 < (l0.length : Int)) = false := decide_eq_false c3
    clear c3; obtain rfl := Option.some.inj H
    go_wp2
    go_ret
    exact ⟨sm, by repeat (first | exact Drawn0.refl _ | apply Drawn0.step)⟩
end Go.Proofs.YtekjlpldooihhaaDoor.PT
