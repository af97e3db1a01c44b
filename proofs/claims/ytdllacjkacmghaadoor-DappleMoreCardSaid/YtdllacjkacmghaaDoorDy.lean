/- What the rows' lists give: what the variables of package dapple hold. -/
import Derived.Test.YtdllacjkacmghaaDoorGa
import Derived.Test.YtdllacjkacmghaaDoorRw
import Derived.Test.YtdllacjkacmghaaDoorRows
import Derived.LaidHandle
import Derived.RowKitVeiled
namespace Go.Proofs.YtdllacjkacmghaaDoorD
set_option linter.unusedSimpArgs false
open Go Go.RowKit Go.Proofs.YtdllacjkacmghaaDoorRw Go.Proofs.YtdllacjkacmghaaDoor
set_option linter.unusedVariables false

theorem gn1 : Tryd.prog.globalNamed "skewbald/dapple.alikes" = some 0 := by kernel_rfl
theorem gt1 : (Tryd.prog.globals[0]?).map (·.type) = some 81 := by kernel_rfl
theorem gn2 : Tryd.prog.globalNamed "skewbald/dapple.never" = some 1 := by kernel_rfl
theorem gt2 : (Tryd.prog.globals[1]?).map (·.type) = some 102 := by kernel_rfl
theorem named_can : Tryd.prog.funcNamed "(skewbald/dapple.size).can" = some 110 := by kernel_rfl
theorem named_sure : Tryd.prog.funcNamed "(skewbald/dapple.size).sure" = some 112 := by kernel_rfl

theorem utf8_inj {a b : String} (h : a.toUTF8.data.toList = b.toUTF8.data.toList) : a = b := by
  have h1 : a.toUTF8 = b.toUTF8 := by
    rcases ha : a.toUTF8 with ⟨x⟩
    rcases hb : b.toUTF8 with ⟨y⟩
    rw [ha, hb] at h
    have : x = y := by
      have := congrArg List.toArray h
      simpa using this
    rw [this]
  exact String.toByteArray_inj.1 h1
theorem token_can {t : TypeId} {v : Value} (h : funcToken Tryd.prog (t, v) = "(skewbald/dapple.size).can".toUTF8.data.toList) : v = .func (.func 110) #[] #[] := by
  have hb : ∃ b r, "(skewbald/dapple.size).can".toUTF8.data.toList = b :: r := ⟨_, _, rfl⟩
  obtain ⟨b, r, e⟩ := hb
  obtain ⟨f, fn, rfl, hfn, hnm, hn⟩ := funcToken_tells (h.trans e)
  have : fn.name = "(skewbald/dapple.size).can" := utf8_inj (hn.trans e.symm)
  rw [this, named_can] at hnm
  obtain rfl := Option.some.inj hnm
  rfl
theorem token_sure {t : TypeId} {v : Value} (h : funcToken Tryd.prog (t, v) = "(skewbald/dapple.size).sure".toUTF8.data.toList) : v = .func (.func 112) #[] #[] := by
  have hb : ∃ b r, "(skewbald/dapple.size).sure".toUTF8.data.toList = b :: r := ⟨_, _, rfl⟩
  obtain ⟨b, r, e⟩ := hb
  obtain ⟨f, fn, rfl, hfn, hnm, hn⟩ := funcToken_tells (h.trans e)
  have : fn.name = "(skewbald/dapple.size).sure" := utf8_inj (hn.trans e.symm)
  rw [this, named_sure] at hnm
  obtain rfl := Option.some.inj hnm
  rfl

def canBytes : List UInt8 := [40, 115, 107, 101, 119, 98, 97, 108, 100, 47, 100, 97, 112, 112, 108, 101, 46, 115, 105, 122, 101, 41, 46, 99, 97, 110]
def sureBytes : List UInt8 := [40, 115, 107, 101, 119, 98, 97, 108, 100, 47, 100, 97, 112, 112, 108, 101, 46, 115, 105, 122, 101, 41, 46, 115, 117, 114, 101]
theorem canBytes_eq : canBytes = "(skewbald/dapple.size).can".toUTF8.data.toList := by rfl
theorem sureBytes_eq : sureBytes = "(skewbald/dapple.size).sure".toUTF8.data.toList := by rfl
theorem list2 {α : Type} {l : List α} (h : l.length = 2) : ∃ a b, l = [a, b] := by
  match l, h with
  | [a, b], _ => exact ⟨a, b, rfl⟩
theorem list3 {α : Type} {l : List α} (h : l.length = 3) : ∃ a b c, l = [a, b, c] := by
  match l, h with
  | [a, b, c], _ => exact ⟨a, b, c, rfl⟩
theorem arr2 {α : Type} {l : Array α} (h : l.toList.length = 2) : ∃ a b, l = #[a, b] := by
  obtain ⟨a, b, e⟩ := list2 h
  exact ⟨a, b, by rw [← e]⟩
theorem arr3 {α : Type} {l : Array α} (h : l.toList.length = 3) : ∃ a b c, l = #[a, b, c] := by
  obtain ⟨a, b, c, e⟩ := list3 h
  exact ⟨a, b, c, by rw [← e]⟩
theorem trod_func' {H : Type} {enc : TypeId × Value → H} {W : World} {fuel : Nat} {v : Value} {x : DataW H × List MemPlace} (h : DataW.trod enc Tryd.prog W 0 (fun _ => true) true fuel 80 [v] = some x) : x.1 = .nil ∨ x.1 = .held (enc (80, v)) := by
  obtain ⟨v', hv, hI, rfl⟩ := func_of_trod Tryd.underlying80 h
  obtain rfl : v = v' := by simpa using hv
  cases v <;> first | (exact hI.elim; done) | exact .inl rfl | exact .inr rfl
set_option maxRecDepth 100000 in
theorem alikes_of {W : World} (h : funcsAt Tryd.prog W "skewbald/dapple.alikes" (.agg [.iface "func" (.lit (.string canBytes)), .iface "func" (.lit (.string sureBytes))])) :
    W.cell? ⟨0, 0, none⟩ = some (.func (.func 110) #[] #[]) ∧ W.cell? ⟨0, 1, none⟩ = some (.func (.func 112) #[] #[]) := by
  obtain ⟨g, t, cs, fuel, p, hg, ht, hv, htr⟩ := h
  obtain rfl := Option.some.inj (gn1.symm.trans hg)
  obtain rfl := Option.some.inj (gt1.symm.trans ht)
  obtain ⟨xs, m, _, hx, hlen, hxl, hel⟩ := DataW.trod_array Tryd.underlying81 htr
  have hc2 : Tryd.prog.cellsOf 81 = 2 := by kernel_rfl
  have hc1 : Tryd.prog.cellsOf 80 = 1 := by kernel_rfl
  rw [hc2] at hlen
  obtain ⟨u0, u1, rfl⟩ := arr2 hlen
  obtain ⟨x0, x1, rfl⟩ := list2 hxl
  have e0 := hel 0 (by omega)
  have e1 := hel 1 (by omega)
  rw [hc1] at e0 e1
  have t0 := trod_func' (show DataW.trod _ Tryd.prog W 0 (fun _ => true) true m 80 [u0] = some x0 from e0)
  have t1 := trod_func' (show DataW.trod _ Tryd.prog W 0 (fun _ => true) true m 80 [u1] = some x1 from e1)
  have hx0 : (DataW.agg [.held canBytes, .held sureBytes] : DataW (List UInt8)) = .agg [x0.1, x1.1] := congrArg Prod.fst hx
  simp only [DataW.agg.injEq, List.cons.injEq, and_true] at hx0
  rw [← hx0.1] at t0
  rw [← hx0.2] at t1
  have v0 : u0 = .func (.func 110) #[] #[] := token_can (by rcases t0 with h | h; cases h; rw [← canBytes_eq]; exact (DataW.held.inj h).symm)
  have v1 : u1 = .func (.func 112) #[] #[] := token_sure (by rcases t1 with h | h; cases h; rw [← sureBytes_eq]; exact (DataW.held.inj h).symm)
  have c0 := World.var?_cell gn1 hv 0
  have c1 := World.var?_cell gn1 hv 1
  rw [v0] at c0
  rw [v1] at c1
  exact ⟨by simpa using c0, by simpa using c1⟩

set_option maxRecDepth 100000 in
theorem never_of {W : World} (h : laidMet Tryd.prog [("skewbald/dapple.never", .agg [.lit (.int .i64 (-1)), .lit (.int .i64 (-1)), .lit (.int .i64 (-1))])] W) :
    W.cell? ⟨1, 0, none⟩ = some (.int .i64 (-1)) ∧ W.cell? ⟨1, 1, none⟩ = some (.int .i64 (-1)) ∧ W.cell? ⟨1, 2, none⟩ = some (.int .i64 (-1)) := by
  obtain ⟨ps, ⟨g, t, cs, fuel, p, q, hg, ht, hv, htr, _, _⟩, _⟩ := h
  obtain rfl := Option.some.inj (gn2.symm.trans hg)
  obtain rfl := Option.some.inj (gt2.symm.trans ht)
  obtain ⟨xs, m, _, hx, hlen, hxl, hel⟩ := DataW.trod_struct Tryd.underlying102 htr
  have hc3 : Tryd.prog.cellsOf 102 = 3 := by kernel_rfl
  have hc1 : Tryd.prog.cellsOf 3 = 1 := by kernel_rfl
  rw [hc3] at hlen
  obtain ⟨u0, u1, u2, rfl⟩ := arr3 hlen
  obtain ⟨x0, x1, x2, rfl⟩ := list3 hxl
  have e0 := hel 0 _ rfl
  have e1 := hel 1 _ rfl
  have e2 := hel 2 _ rfl
  simp only [hc1] at e0 e1 e2
  obtain ⟨n0, h0, y0, _⟩ := DataW.trod_int Tryd.underlying3 (show DataW.trod _ Tryd.prog W 0 (fun _ => true) false m 3 [u0] = some x0 from e0)
  obtain ⟨n1, h1, y1, _⟩ := DataW.trod_int Tryd.underlying3 (show DataW.trod _ Tryd.prog W 0 (fun _ => true) false m 3 [u1] = some x1 from e1)
  obtain ⟨n2, h2, y2, _⟩ := DataW.trod_int Tryd.underlying3 (show DataW.trod _ Tryd.prog W 0 (fun _ => true) false m 3 [u2] = some x2 from e2)
  subst y0 y1 y2
  have hx0 : (DataW.agg [.lit (.int .i64 (-1)), .lit (.int .i64 (-1)), .lit (.int .i64 (-1))] : DataW Unit) = .agg [.lit (.int .i64 n0), .lit (.int .i64 n1), .lit (.int .i64 n2)] := congrArg Prod.fst hx
  simp only [DataW.agg.injEq, List.cons.injEq, and_true, DataW.lit.injEq, Lit.int.injEq, true_and] at hx0
  obtain ⟨rfl, rfl, rfl⟩ := hx0
  simp only [List.cons.injEq, and_true] at h0 h1 h2
  subst h0 h1 h2
  have c0 := World.var?_cell gn2 hv 0
  have c1 := World.var?_cell gn2 hv 1
  have c2 := World.var?_cell gn2 hv 2
  exact ⟨by simpa using c0, by simpa using c1, by simpa using c2⟩

theorem laid_data {P : Program} {l : List (String × DataW Unit)} {w : World} (h : laidMetH P l w) {x : String × DataW Unit} (hx : x ∈ l) (hs : x.2.handleName?.isSome = true) : laidMet P (l.filter fun x => x.2.handleName?.isNone) w := by
  have hm : x ∈ l.filter fun x => x.2.handleName?.isSome := List.mem_filter.2 ⟨hx, hs⟩
  unfold laidMetH at h
  generalize (l.filter fun x => x.2.handleName?.isSome) = fl at h hm
  cases fl with
  | nil => cases hm
  | cons a bs => exact h.1

/-- WHAT A ROW's LIST GIVES. -/
theorem glob_of {l : List (String × DataW Unit)} {W : World} (hx : ("skewbald/dapple.alikes", Rows.laid_skewbald_dapple_alikes) ∈ l) (hf : (l.filter fun x => x.2.handleName?.isNone) = [("skewbald/dapple.never", Rows.laid_skewbald_dapple_never)]) (h : laidMetH Tryd.prog l W) : Glob W := by
  have h1 := alikes_of (laidMetH.funcs h hx)
  have h2 := laid_data h hx rfl
  rw [hf] at h2
  have h3 := never_of h2
  exact ⟨h1.1, h1.2, h3.1, h3.2.1, h3.2.2⟩
end Go.Proofs.YtdllacjkacmghaaDoorD
