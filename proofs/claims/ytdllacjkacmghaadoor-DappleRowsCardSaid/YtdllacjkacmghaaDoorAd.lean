/- The walk of the reference's Add. -/
import Derived.Test.YtdllacjkacmghaaDoorHb
namespace Go.Proofs.YtdllacjkacmghaaDoorA
open Go.RowKit Go.Proofs.YtdllacjkacmghaaDoorW.PrintWords Go.Proofs.YtdllacjkacmghaaDoorW.PrintLast Go.Proofs.YtdllacjkacmghaaDoorW.PrintMore Go.Proofs.YtdllacjkacmghaaDoorH
set_option linter.unusedVariables false
set_option linter.unusedSimpArgs false

theorem infoI : (Tryd.prog.info? 3).map (fun i => (i.zero, i.size, i.bytes)) = some (some (.int .i64 0), 1, 8) := by kernel_rfl
def skewbaldref00_Add.f (l0 : List Int) (a1 : Int) : Option (List Int) := if l0.length < 17592186044400 then some (l0 ++ [a1]) else none
set_option maxRecDepth 100000 in
set_option maxHeartbeats 1000000 in
theorem skewbaldref00_Add.calls (A0 : Option Addr) (c0 : Nat) (l0 : List Int) (a1 : Int) (r : List Int) (w : World) (hr0 : Kd.C (Kd.int .i64) w A0 l0.length l0) (hc0 : l0.length ≤ c0) (h : skewbaldref00_Add.f l0 a1 = some r) :
    Calls Tryd.prog 88 #[.slice A0 l0.length c0, .int .i64 a1] w fun e w' => ∃ v0_ : Value, e = .returned (v0_) ∧ Kd.R (Kd.int .i64) 3 w' w.heap.size (fun _ => True) v0_ r ∧ Below w.heap.size w w' := by
  unfold skewbaldref00_Add.f at h
  by_cases hl : l0.length < 17592186044400
  · rw [if_pos hl] at h
    obtain rfl := Option.some.inj h
    obtain ⟨i0, hi, hz0, hz1, hz2⟩ := info_parts infoI
    obtain ⟨w1, hmk, hown, hg1⟩ := run_make_own (P := Tryd.prog) w w.heap.size 26 3 i0 (.int .i64 0) 1 Tryd.underlying26 hi hz0 hz1 .i64 .i64 (l0.length + 1) (by rw [hz2]; omega) (by simp [maxLen]; omega) (Nat.le_refl _)
    have hmk' : (Instr.makeSlice 26 (.int .i64 0) (.int .i64 ((l0.length : Int) + 1))).run Tryd.prog w = .ok (.slice (some ⟨w.heap.size, 0, none⟩) 0 (l0.length + 1)) w1 := hmk
    clear hmk
    have hb1 : Below w.heap.size w w1 := (Below.refl _ w).grown hg1 (Nat.le_refl _) (fun k e => by cases e)
    have HR1 := Lib.hid (Kd.C_below hr0 hb1)
    have HO := Lib.hid (show Kd.R (Kd.int .i64) 3 w1 w.heap.size (fun _ => True) (.slice (some ⟨w.heap.size, 0, none⟩) 0 (l0.length + 1)) [] from Kd.R_of_own (by simpa [encs_map] using hown) (fun _ _ => trivial))
    have HB := Lib.hid hb1
    clear hown hg1 hb1 hr0
    go_enter Tryd.func88, Tryd.ntmps88
    go_wp2_with (first | ((with_reducible refine gate_builtin (b := .append) (xs := #[.tmp 10, .tmp 11]) rfl ?_); at_builtin; refine Kd.R_append_rows (Kd.int .i64) (Rr := (Kd.int .i64).K w1) (w0 := w) w.heap.size rfl (.tmp 10) (.tmp 11) 26 3 (.int .i64 0) 8 rfl Tryd.underlying26 infoI rfl (by decide) (by omega) _ [] l0 A0 l0.length c0 (fun _ => True) (fun _ => False) rfl rfl HO.out HR1.out (fun _ _ h => h) (fun _ hk => hk.elim) (fun _ _ => trivial) HB.out (below_size HB.out) (by simp; omega) ?_; intro v2 w2 ho hb hg hat; rw [List.nil_append] at ho; have HO2 := Lib.hid ho; have HB2 := Lib.hid hb; clear ho hb hg hat) | ((with_reducible refine gate_builtin (b := .append) (xs := #[.tmp 13, .tmp 15]) rfl ?_); at_builtin; refine Kd.R_append (Kd.int .i64) (w0 := w) w.heap.size rfl (.tmp 13) (.tmp 15) 26 3 (.int .i64 0) 8 rfl Tryd.underlying26 infoI rfl (by decide) (by omega) _ l0 a1 [.int .i64 a1] (fun _ => True) (fun _ => False) rfl rfl ?aP (fun _ hk => hk.elim) ?aF ?aO ?aB ?aS ?aL ?_; (case aP => exact rfl); (case aF => exact (fun _ _ => trivial)); (case aO => exact HO2.out); (case aB => exact HB2.out); (case aS => exact below_size HB2.out); (case aL => omega); intro v3 w3 ho hb hg hat))
    go_ret
    exact ⟨_, rfl, ho, hb⟩
  · rw [if_neg hl] at h
    cases h
end Go.Proofs.YtdllacjkacmghaaDoorA
