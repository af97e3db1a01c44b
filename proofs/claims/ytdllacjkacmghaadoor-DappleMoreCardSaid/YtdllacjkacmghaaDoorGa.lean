/- The walks of package dapple: what each function's call does, told by Lean functions. The keys of dapple's map compare as their numbers do. The walks of package dapple: what each function's call does, told by Lean functions. -/
import Derived.Test.YtdllacjkacmghaaDoorHa
namespace Go.Proofs.YtdllacjkacmghaaDoorD
open Go.RowKit Go.Proofs.YtdllacjkacmghaaDoorW.PrintWords Go.Proofs.YtdllacjkacmghaaDoorW.PrintLast Go.Proofs.YtdllacjkacmghaaDoorW.PrintMore Go.Proofs.YtdllacjkacmghaaDoorH
set_option linter.unusedVariables false
set_option linter.unusedSimpArgs false

/-- WHAT THE PACKAGE's VARIABLES HOLD. -/
structure Glob (w : World) : Prop where
  can : w.cell? ⟨0, 0, none⟩ = some (.func (.func 110) #[] #[])
  sure : w.cell? ⟨0, 1, none⟩ = some (.func (.func 112) #[] #[])
  never0 : w.cell? ⟨1, 0, none⟩ = some (.int .i64 (-1))
  never1 : w.cell? ⟨1, 1, none⟩ = some (.int .i64 (-1))
  never2 : w.cell? ⟨1, 2, none⟩ = some (.int .i64 (-1))
theorem Glob.below {w w1 : World} (h : Glob w) (hb : Below w.heap.size w w1) : Glob w1 :=
  ⟨pw_cell_below hb h.can, pw_cell_below hb h.sure, pw_cell_below hb h.never0, pw_cell_below hb h.never1, pw_cell_below hb h.never2⟩

theorem calls_bare (w : World) :
    Calls Tryd.prog 71 #[] w fun e w' => e = .returned (.agg #[.int .i64 0, .int .i64 0, .int .i64 0, .int .i64 0, .int .i64 0, .int .i64 0, .int .i64 0, .int .i64 0]) ∧ Below w.heap.size w w' := by
  go_enter Tryd.func71, Tryd.ntmps71
  go_wp2
  exact bodyPost_ret (by simp [results, Tryd.results71, go_sem]) rfl ⟨rfl, (((Below.refl _ w).alloc (Nat.le_refl _) _).alloc (by simp) _)⟩

set_option maxHeartbeats 400000 in
theorem calls_rowOf (A : Option Addr) (c : Nat) (l : List Int) (w : World) (hr : Kd.C (Kd.int .i64) w A l.length l) (hc : l.length ≤ c) (h8 : l.length ≤ 8) :
    Calls Tryd.prog 68 #[.slice A l.length c] w fun e w' => e = .returned (.agg (rowA l)) ∧ Below w.heap.size w w' := by
  go_enter Tryd.func68, Tryd.ntmps68
  go_wp2_with (go_at_call 71; refine (calls_bare _).mono ?_; rintro e w1 ⟨rfl, hb1⟩)
  have hs1 : w.heap.size + 1 ≤ w1.heap.size := by have := hb1.size; simpa using this
  have hR : w1.heap[w.heap.size]? = some (.cells (rowA []) 79 (0, 0)) := blk_below (blk_new w _) hb1
  have hG := blk_new w1 (.cells (rowA []) 79)
  have hR' := blk_alloc hR (.cells (rowA []) 79)
  have hB : Below w.heap.size w (w1.alloc (.cells (rowA []) 79)) := (((Below.refl _ w).alloc (Nat.le_refl _) _).trans (hb1.mono (by simp))).alloc (by omega) _
  have HR := Lib.hid hR'; clear hR' hR
  have HG := Lib.hid hG; clear hG
  have HB := Lib.hid hB; clear hB hb1
  go_loopw [9] (fun v wr => ∃ k : Nat, k ≤ l.length ∧ v = .int .i64 k ∧ Hid (wr.heap[w.heap.size]? = some (.cells (rowA []) 79 (0, 0))) ∧ Hid (wr.heap[w1.heap.size]? = some (.cells (rowA (l.take k)) 79 (0, 0))) ∧ Hid (Below w.heap.size w wr)) (fun v _ => l.length - (intOf v).toNat)
  case atStart => exact ⟨0, Nat.zero_le _, rfl, HR, HG, HB⟩
  case round =>
    obtain ⟨k, hk, rfl, HR, HG, HB⟩ := hrel
    by_cases hlt : k < l.length
    · obtain ⟨ad, rfl, hcell⟩ := at_nat (Kd.C_below hr HB.out) k hlt
      have hg1 : wr.cell? ⟨w1.heap.size, k, none⟩ = some (.int .i64 0) := by rw [blk_cell HG.out, rowA_get _ _ (by omega), el_take]
      have hg2 := blk_frozen HG.out k
      go_wp2
      go_roundw
      case rel => exact ⟨k + 1, by omega, by go_num, blk_far HR.out (by simp; omega) _, by have := blk_set HG.out k (.int .i64 (rd l k)); rwa [rowA_set l k hlt h8] at this, HB.out.setCell (by simp; omega) _⟩
      case measure => simp [intOf]; omega
    · go_wp2_with (first | ((with_reducible refine gate_dst (N := 18) rfl ?_); refine wpList_load_row rfl 79 _ rfl w1.heap.size rfl 79 _ _ _ HG.out Tryd.underlying79 rfl (by kernel_rfl) ?_) | ((with_reducible refine gate_store (t := 79) (p := 2) rfl ?_); refine wpList_store_row rfl 79 _ _ rfl w.heap.size _ rfl rfl 79 _ HR.out (by kernel_rfl) rfl (row_one _) ?_))
      obtain rfl : k = l.length := by omega
      rw [List.take_length]
      have HR2 := setRow_heap wr w.heap.size _ (rowA l) 79 _ HR.out
      exact bodyPost_ret (results_cell_row rfl _ _ w.heap.size 79 _ _ _ rfl HR2 Tryd.underlying79 rfl (by kernel_rfl)) rfl ⟨rfl, below_setRow HB.out (Nat.le_refl _) _⟩

end Go.Proofs.YtdllacjkacmghaaDoorD

namespace Go.Proofs.YtdllacjkacmghaaDoorD
open Go.RowKit Go.Proofs.YtdllacjkacmghaaDoorW.PrintWords Go.Proofs.YtdllacjkacmghaaDoorW.PrintLast Go.Proofs.YtdllacjkacmghaaDoorW.PrintMore Go.Proofs.YtdllacjkacmghaaDoorH
set_option linter.unusedVariables false
set_option linter.unusedSimpArgs false

theorem eqTurn (d : Nat) (w : World) (x0 y0 x1 y1 x2 y2 : Int) :
    (Op.equalIn (d + 2) 102 (.agg #[.int .i64 x0, .int .i64 x1, .int .i64 x2]) (.agg #[.int .i64 y0, .int .i64 y1, .int .i64 y2])).run Tryd.prog w = .ok (x0 == y0 && (x1 == y1 && (x2 == y2))) w := by
  refine eqA_of Tryd.underlying102 (by kernel_rfl) ?_
  refine eqf_cons (by rfl) (by go_simp; rfl) (by go_simp; rfl) (by go_simp) ?_
  refine eqf_cons (by rfl) (by go_simp; rfl) (by go_simp; rfl) (by go_simp) ?_
  exact eqf_last (by rfl) (by go_simp; rfl) (by go_simp; rfl) (by go_simp)

theorem chkInt (em : Bool) (d : Nat) (w : World) (x : Int) : (Instr.checkKey em (d + 1) 3 (.int .i64 x)).run Tryd.prog w = .ok () w := by
  rw [Instr.checkKey]
  go_simp
theorem chkTurn (em : Bool) (d : Nat) (w : World) (x0 x1 x2 : Int) : (Instr.checkKey em (d + 1 + 1) 102 (.agg #[.int .i64 x0, .int .i64 x1, .int .i64 x2])).run Tryd.prog w = .ok () w := by
  have h := chkInt em d
  rw [Instr.checkKey]
  go_simp
theorem eqTurnL (d : Nat) (w : World) (a b : List Int) (ha : a.length = 3) (hb : b.length = 3) : (Op.equalIn (d + 2) 102 (keyA a) (keyA b)).run Tryd.prog w = .ok (decide (a = b)) w := by
  match a, ha, b, hb with
  | [a0, a1, a2], _, [b0, b1, b2], _ =>
    refine (eqTurn d w a0 b0 a1 b1 a2 b2).trans ?_
    congr 1
    rw [Bool.eq_iff_iff]
    simp
theorem turnKey : KeyEq Tryd.prog 102 3 where
  desc := ⟨_, Tryd.underlying102⟩
  check := fun em a ha w => by
    match a, ha with
    | [a0, a1, a2], _ => exact chkTurn em 9998 w a0 a1 a2
  eq := fun a b ha hb w => eqTurnL 9998 w a b ha hb
end Go.Proofs.YtdllacjkacmghaaDoorD

namespace Go.Proofs.YtdllacjkacmghaaDoorD
open Go.RowKit Go.Proofs.YtdllacjkacmghaaDoorW.PrintWords Go.Proofs.YtdllacjkacmghaaDoorW.PrintLast Go.Proofs.YtdllacjkacmghaaDoorW.PrintMore Go.Proofs.YtdllacjkacmghaaDoorH
set_option linter.unusedVariables false
set_option linter.unusedSimpArgs false


/-- a row of sets, as a kind -/
def kRow : Kd (List Int) where
  sz := 8
  E := []
  K := fun _ l cs => cs = (rowA l).toList
  M := fun _ _ _ l cs => cs = (rowA l).toList
  K_len := fun h => by subst h; rfl
  K_one := fun h u hu => by subst h; exact (Array.all_eq_true_iff_forall_mem.1 (row_one _)) u (by simpa using hu)
  K_below := fun _ h => h
  K_of_M := fun h => h
  M_mono := fun _ h => h
  M_bound := fun h => h
  M_move := fun _ h => h
  M_lower := fun _ h => h

theorem infoRow : (Tryd.prog.info? 79).map (fun i => (i.zero, i.size, i.bytes)) = some (some (.agg (rowA [])), 8, 64) := by kernel_rfl
set_option maxRecDepth 100000 in
set_option maxHeartbeats 800000 in
theorem calls_opened (R : Int) (A : Option Addr) (c : Nat) (l : List (List Int)) (w : World) (hr : Kd.C (Kd.slice 3 (Kd.int .i64)) w A l.length l) (hc : l.length ≤ c) (h8 : ∀ r ∈ l, r.length ≤ 8) (hl : l.length ≤ 6) (hG : Glob w) :
    Calls Tryd.prog 66 #[.agg #[.int .i64 R, .slice A l.length c]] w fun e w' => ∃ v m, e = .returned (.agg #[.int .i64 R, .slice A l.length c, v, .map (some m)]) ∧ kRow.R 79 w' w.heap.size (fun _ => True) v l ∧
      MapFn 3 w' m (fun ks => if ks = [-1, -1, -1] then some (.bool false) else none) ∧ w.heap.size ≤ m ∧ Below w.heap.size w w' := by
  go_enter Tryd.func66, Tryd.ntmps66
  go_wp2_with fail
  have hB : Below w.heap.size w ((w.alloc (.cells #[.int .i64 R, .slice A l.length c] 24)).alloc (.cells #[.int .i64 0, .slice none 0 0, .slice none 0 0, .map none] 72)) := ((Below.refl _ w).alloc (Nat.le_refl _) _).alloc (by simp) _
  have hX := blk_alloc (blk_new w (.cells #[.int .i64 R, .slice A l.length c] 24)) (.cells #[.int .i64 0, .slice none 0 0, .slice none 0 0, .map none] 72)
  have hY := blk_new (w.alloc (.cells #[.int .i64 R, .slice A l.length c] 24)) (.cells #[.int .i64 0, .slice none 0 0, .slice none 0 0, .map none] 72)
  have hsz : ((w.alloc (.cells #[.int .i64 R, .slice A l.length c] 24)).alloc (.cells #[.int .i64 0, .slice none 0 0, .slice none 0 0, .map none] 72)).heap.size = w.heap.size + 2 := by simp
  rw [World.size_alloc] at hY
  revert hB hX hY hsz
  generalize (w.alloc (.cells #[.int .i64 R, .slice A l.length c] 24)).alloc (.cells #[.int .i64 0, .slice none 0 0, .slice none 0 0, .map none] 72) = W
  intro hB hX hY hsz
  obtain ⟨hc0, hc1, hc2⟩ : W.cell? ⟨1, 0, none⟩ = some (.int .i64 (-1)) ∧ W.cell? ⟨1, 1, none⟩ = some (.int .i64 (-1)) ∧ W.cell? ⟨1, 2, none⟩ = some (.int .i64 (-1)) := by have h := hG.below hB; exact ⟨h.never0, h.never1, h.never2⟩
  have hlt : 1 < W.heap.size := World.block_lt_of_cell? W _ hc0
  have hlt1 : 1 < W.heap.size + 1 := by omega
  have hlt2 : 1 < W.heap.size + 1 + 1 := by omega
  have hx0 : W.cell? ⟨w.heap.size, 0, none⟩ = some (.int .i64 R) := blk_cell hX 0
  have hx1 : W.cell? ⟨w.heap.size, 1, none⟩ = some (.slice A l.length c) := blk_cell hX 1
  have hl0 : w.heap.size < W.heap.size := by omega
  have hl1 : w.heap.size < W.heap.size + 1 := by omega
  have hl2 : w.heap.size < W.heap.size + 1 + 1 := by omega
  have HX := Lib.hid hX; clear hX
  have HY := Lib.hid hY; clear hY
  have HB := Lib.hid hB; clear hB
  have HS := Lib.hid hsz; clear hsz
  go_cut [3] (fun v3 wc => ∃ g m, v3 = .pointer (some ⟨g, 0, none⟩) ∧ Hid (g < wc.heap.size) ∧ Hid (w.heap.size + 2 ≤ g) ∧ Hid (w.heap.size + 2 ≤ m) ∧ Hid (wc.heap[w.heap.size]? = some (.cells #[.int .i64 R, .slice A l.length c] 24 (0, 0))) ∧ Hid (wc.heap[w.heap.size + 1]? = some (.cells #[.int .i64 0, .slice none 0 0, .slice none 0 0, .map none] 72 (0, 0))) ∧ Hid (wc.heap[g]? = some (.cells #[.int .i64 R, .slice A l.length c, .slice none 0 0, .map (some m)] 72 (0, 0))) ∧ Hid (MapFn 3 wc m (fun ks => if ks = [-1, -1, -1] then some (.bool false) else none)) ∧ Hid (Below w.heap.size w wc))
  case first =>
    have hmm := @run_makeMap Tryd.prog
    have hi1 : (Instr.mapUpdate 70 (.map (some W.heap.size)) (.agg #[.int .i64 (-1), .int .i64 (-1), .int .i64 (-1)]) (.bool false)).run Tryd.prog (W.alloc (.map #[] 0)).drew = .ok () (W.alloc (.map #[⟨keyA [-1, -1, -1], .bool false, 0⟩] 1)).drew := by
      have := run_insert_new 70 4 Tryd.underlying70 turnKey (W := (W.alloc (.map #[] 0)).drew) (blk_new W _) [-1, -1, -1] rfl (.bool false)
      rw [putObj_drew, putObj_new] at this
      exact this
    have hi2 : (Instr.mapUpdate 70 (.map (some W.heap.size)) (.agg #[.int .i64 (-1), .int .i64 (-1), .int .i64 (-1)]) (.bool false)).run Tryd.prog ((W.alloc (.map #[] 0)).alloc (.cells #[.int .i64 0, .slice none 0 0, .slice none 0 0, .map none] 72)).drew = .ok () ((W.alloc (.map #[⟨keyA [-1, -1, -1], .bool false, 0⟩] 1)).alloc (.cells #[.int .i64 0, .slice none 0 0, .slice none 0 0, .map none] 72)).drew := by
      have := run_insert_new 70 4 Tryd.underlying70 turnKey (W := ((W.alloc (.map #[] 0)).alloc (.cells #[.int .i64 0, .slice none 0 0, .slice none 0 0, .map none] 72)).drew) (blk_alloc (blk_new W _) _) [-1, -1, -1] rfl (.bool false)
      rw [putObj_drew, putObj_old _ _ _ _ (by simp), putObj_new] at this
      exact this
    have hi3 : (Instr.mapUpdate 70 (.map (some (W.heap.size + 1))) (.agg #[.int .i64 (-1), .int .i64 (-1), .int .i64 (-1)]) (.bool false)).run Tryd.prog ((W.alloc (.cells #[.int .i64 0, .slice none 0 0, .slice none 0 0, .map none] 72)).alloc (.map #[] 0)).drew = .ok () ((W.alloc (.cells #[.int .i64 0, .slice none 0 0, .slice none 0 0, .map none] 72)).alloc (.map #[⟨keyA [-1, -1, -1], .bool false, 0⟩] 1)).drew := by
      have h0 := blk_new (W.alloc (.cells #[.int .i64 0, .slice none 0 0, .slice none 0 0, .map none] 72)) (.map #[] 0)
      have := run_insert_new 70 4 Tryd.underlying70 turnKey (W := ((W.alloc (.cells #[.int .i64 0, .slice none 0 0, .slice none 0 0, .map none] 72)).alloc (.map #[] 0)).drew) h0 [-1, -1, -1] rfl (.bool false)
      rw [putObj_drew, putObj_new, World.size_alloc] at this
      exact this
    go_region
    all_goals
      go_wp2
      go_meet
      case rel =>
        have hs := HS.out
        first
        | exact ⟨W.heap.size + 1, W.heap.size, rfl, by show _ < ((W.alloc _).alloc _).heap.size; simp, by show _ ≤ _; omega, by show _ ≤ _; omega, blk_alloc (blk_alloc HX.out _) _, blk_alloc (blk_alloc HY.out _) _, by have := blk_new (W.alloc (.map #[⟨keyA [-1, -1, -1], .bool false, 0⟩] 1)) (.cells #[.int .i64 R, .slice A l.length c, .slice none 0 0, .map (some W.heap.size)] 72); rw [World.size_alloc] at this; exact this, MapFn.one _ [-1, -1, -1] _ _ (blk_alloc (blk_new W _) _), ((HB.out.alloc (by omega) _).alloc (by simp; omega) _).drew⟩
        | exact ⟨W.heap.size, W.heap.size + 1, rfl, by show _ < ((W.alloc _).alloc _).heap.size; simp; omega, by show _ ≤ _; omega, by show _ ≤ _; omega, blk_alloc (blk_alloc HX.out _) _, blk_alloc (blk_alloc HY.out _) _, blk_alloc (blk_new W _) _, MapFn.one _ [-1, -1, -1] _ _ (by have := blk_new (W.alloc (.cells #[.int .i64 R, .slice A l.length c, .slice none 0 0, .map (some (W.heap.size + 1))] 72)) (.map #[⟨keyA [-1, -1, -1], .bool false, 0⟩] 1); rw [World.size_alloc] at this; exact this), ((HB.out.alloc (by omega) _).alloc (by simp; omega) _).drew⟩
  case rest =>
    obtain ⟨g, m, rfl, Hg, Hg2, Hm, HX, HY, HG, HM, HB⟩ := hcut
    have hx0 : wc.cell? ⟨w.heap.size, 1, none⟩ = some (.slice A l.length c) := blk_cell HX.out 1
    go_wp2_with fail
    go_loopw [14] (fun v wr => ∃ (k : Nat) (u : Value), k ≤ l.length ∧ v = .int .i64 k ∧ Hid (wr.heap[w.heap.size + 1]? = some (.cells #[.int .i64 0, .slice none 0 0, .slice none 0 0, .map none] 72 (0, 0))) ∧ Hid (wr.heap[g]? = some (.cells #[.int .i64 R, .slice A l.length c, u, .map (some m)] 72 (0, 0))) ∧ Hid (kRow.R 79 wr w.heap.size (fun _ => True) u (l.take k)) ∧ Hid (MapFn 3 wr m (fun ks => if ks = [-1, -1, -1] then some (.bool false) else none)) ∧ Hid (Below w.heap.size w wr)) (fun v _ => l.length - (intOf v).toNat)
    case atStart => exact ⟨0, _, Nat.zero_le _, rfl, HY, HG, Kd.R_nil _ _ _ _ _, HM, HB⟩
    case round =>
      clear Hg HX HY HG HM HB hx0
      obtain ⟨k, u, hk, rfl, HY, HG, HR, HM, HB⟩ := hrel
      by_cases hlt : k < l.length
      · obtain ⟨ad, A0, c0, x, rfl, hx, hcell, hlx, hKx⟩ := at_row (Kd.C_below hr HB.out) k hlt
        have hx8 := h8 x (List.mem_of_getElem? hx)
        have HX := Lib.hid hx; clear hx
        have HK := Lib.hid hKx; clear hKx
        have hc2 : wr.cell? ⟨g, 2, none⟩ = some u := blk_cell HG.out 2
        go_wp2_with fail
        have hcf : ∀ W : World, W.heap[g]? = some (.cells #[.int .i64 R, .slice (some ad) l.length c, u, .map (some m)] 72 (0, 0)) → W.cell? ⟨g, 2, none⟩ = some u := fun W h => blk_cell h 2
        refine start_ (n := 8) (S := fun w' => w'.heap[g]? = some (.cells #[.int .i64 R, .slice (some ad) l.length c, u, .map (some m)] 72 (0, 0))) (ds := [5, 7]) #[false, false, false, false, false, false, false, false] (by kernel_rfl) rfl rfl (HG.out) (fun hHeld => ?_)
        refine pure_ (i := 0) (N := some 18) (v := ?_) (a' := ?_) #[true, false, false, false, false, false, false, false] rfl rfl (by kernel_rfl) (fun _ _ _ h => h) (Or.inl ⟨by rfl, ?_⟩) ?_ ?_
        rotate_left
        · intro w'
          go_simp
          with_reducible rfl
        rotate_left
        · simp only [Act.put, List.setIfInBounds_toArray, List.set_cons_zero, List.set_cons_succ, i64_w, i32_w]
          rfl
        refine pure_ (i := 2) (N := some 20) (v := ?_) (a' := ?_) #[true, false, true, false, false, false, false, false] rfl rfl (by kernel_rfl) (fun _ _ _ h => h) (Or.inl ⟨by rfl, ?_⟩) ?_ ?_
        rotate_left
        · intro w'
          go_simp
          with_reducible rfl
        rotate_left
        · simp only [Act.put, List.setIfInBounds_toArray, List.set_cons_zero, List.set_cons_succ, i64_w, i32_w]
          rfl
        refine take_ (i := 1) (N := some 19) (v := ?_) (a' := ?_) #[true, true, true, false, false, false, false, false] rfl rfl (by kernel_rfl) (fun _ _ _ h => h) (Or.inl ⟨by rfl, ?_⟩) hHeld ?_ ?_
        rotate_left
        · intro w' s0
          go_simp
          with_reducible rfl
        rotate_left
        · simp only [Act.put, List.setIfInBounds_toArray, List.set_cons_zero, List.set_cons_succ, i64_w, i32_w]
          rfl
        refine one_ (i := 3) (N := some 21) #[true, true, true, true, false, false, false, false] rfl rfl (by kernel_rfl) (by decide) (fun K hK => ?_)
        refine goes_ Tryd.func68 (by kernel_rfl) rfl #[.slice A0 x.length c0] (by rfl) rfl rfl (by first | (simp; done) | (simp only [List.map_toArray, List.map_cons, List.map_nil]; rfl)) ?_
        with_reducible refine (calls_rowOf A0 c0 x _ (Kd.C_drew HK.out) hlx hx8).mono ?_
        rintro e w1 ⟨rfl, hb0⟩
        have hb1 : Below wr.heap.size wr w1 := undrew hb0
        clear hb0
        refine ⟨_, rfl, ?_⟩
        refine hK.out _ _ (blk_below HG.out hb1) (fun hHeld => ?_)
        clear hK K
        refine norm_ (a' := ?_) ?_ ?_
        rotate_left
        · show Act.put _ (some 21) _ = _
          simp only [Act.put, List.setIfInBounds_toArray, List.set_cons_zero, List.set_cons_succ, i64_w, i32_w]
          rfl
        refine one_ (i := 4) (N := some 22) #[true, true, true, true, true, false, false, false] rfl rfl (by kernel_rfl) (by decide) (fun K hK => ?_)
        refine value_ (w1 := ?_) (v := ?_) (by rfl) rfl ?_ ?_
        rotate_left 2
        · unfold rowA
          go_simp
          constructor
          · rfl
          · rfl
        refine hK.out _ _ (blk_alloc (blk_below HG.out hb1) _) (fun hHeld => ?_)
        clear hK K
        refine norm_ (a' := ?_) ?_ ?_
        rotate_left
        · show Act.put _ (some 22) _ = _
          simp only [Act.put, List.setIfInBounds_toArray, List.set_cons_zero, List.set_cons_succ, i64_w, i32_w]
          rfl
        refine last_ (i := 5) (N := some 23) #[true, true, true, true, true, true, false, false] rfl rfl (by kernel_rfl) (by decide) (fun K hK => ?_)
        refine Kd.R_append_step kRow (w0 := w) w.heap.size (by rfl) (.tmp 19) (.tmp 22) 69 79 _ 64 (by rfl) Tryd.underlying69 infoRow (by rfl) (by decide) (by decide) u (l.take k) x (rowA x).toList (fun _ => True) (fun _ => False) (by rfl) (by rfl) rfl (fun _ h => h.elim) (fun _ _ => trivial) (Kd.R_below HR.out hb1) (HB.out.trans (hb1.mono (below_size HB.out))) (by have := below_size HB.out; have := hb1.size; omega) (by simp; omega) ?_
        intro v1 w2 hr2 hb2 hg2 hat2
        obtain ⟨g1, cap1, rfl, hg1, _, _⟩ := Kd.R_form hr2 (by simp)
        have HG2 : w2.heap[g]? = some (.cells #[.int .i64 R, .slice (some ad) l.length c, u, .map (some m)] 72 (0, 0)) := blk_grown (blk_below HG.out hb1) hg2 (Kd.R_ne (Kd.R_below HR.out hb1) (blk_below HG.out hb1) (by decide))
        have hc22 := blk_cell HG2 2
        have hf22 := blk_frozen HG2 2
        refine hK.out _ _ ?_
        clear hK K
        refine norm_ (a' := ?_) ?_ ?_
        rotate_left
        · show Act.put _ (some 23) _ = _
          simp only [Act.put, List.setIfInBounds_toArray, List.set_cons_zero, List.set_cons_succ, i64_w, i32_w]
          rfl
        refine pure_ (i := 6) (N := some 24) (v := ?_) (a' := ?_) #[true, true, true, true, true, true, true, false] rfl rfl (by kernel_rfl) (fun _ _ _ h => h) (Or.inl ⟨by rfl, ?_⟩) ?_ ?_
        rotate_left
        · intro w'
          go_simp
          with_reducible rfl
        rotate_left
        · simp only [Act.put, List.setIfInBounds_toArray, List.set_cons_zero, List.set_cons_succ, i64_w, i32_w]
          rfl
        refine last_ (i := 7) (N := none) #[true, true, true, true, true, true, true, true] rfl rfl (by kernel_rfl) (by decide) (fun K hK => ?_)
        refine skip_ (w1 := ?_) (by rfl) rfl ?_ ?_
        rotate_left
        · go_simp
          rfl
        refine hK.out _ _ ?_
        clear hK K
        refine done_ (by kernel_rfl) ?_

        go_wp2
        go_roundw
        case rel =>
          have hlen : (l.take k ++ [x]).length = k + 1 := by simp; omega
          rw [hlen] at hr2
          refine ⟨k + 1, .slice (some ⟨g1, 0, none⟩) (k + 1) cap1, by omega, by go_num, ?_, ?_, ?_, ?_, ?_⟩
          · exact blk_far (blk_grown (blk_below HY.out hb1) hg2 (Kd.R_ne (Kd.R_below HR.out hb1) (blk_below HY.out hb1) (by decide))) (by have := Hg2.out; simp; omega) _
          · exact blk_set HG2 2 (.slice (some ⟨g1, 0, none⟩) (k + 1) cap1)
          · rw [show l.take (k + 1) = l.take k ++ [x] from by rw [List.take_add_one, HX.out]; rfl]
            exact Kd.R_set hr2 HG2 (by intro q hq; simp [kRow] at hq; subst hq; decide) 2 _
          · exact ((HM.out.below hb1).grown hg2 (map_ne_row (Kd.R_below HR.out hb1) (HM.out.below hb1))).set _ _ (fun e => by
              have h1 := HM.out
              obtain ⟨arr, clock, h2, _⟩ := h1
              have h3 := HG.out
              simp only at e
              rw [← e, h2] at h3
              cases h3)
          · exact hb2.setCell (by have := Hg2.out; simp; omega) _
        case measure => simp [intOf]; omega
      · obtain rfl : k = l.length := by omega
        have hr0 := HR.out
        rw [List.take_length] at hr0
        obtain ⟨A', c', rfl, _, _⟩ := Kd.R_reads hr0
        have HR2 := Lib.hid hr0
        clear hr0 HR
        go_wp2_with (first | ((with_reducible refine gate_dst (N := 26) rfl ?_); refine wpList_load_row rfl 72 _ rfl g rfl 72 _ _ _ HG.out Tryd.underlying72 rfl (by kernel_rfl) ?_) | ((with_reducible refine gate_store (t := 72) (p := 2) rfl ?_); refine wpList_store_row rfl 72 _ _ rfl (w.heap.size + 1) _ rfl rfl 72 _ HY.out (by kernel_rfl) rfl (by simp [Value.oneCell']) ?_))
        have HY2 := setRow_heap wr (w.heap.size + 1) _ #[.int .i64 R, .slice A l.length c, .slice A' l.length c', .map (some m)] 72 _ HY.out
        have hmo : MapFn 3 (wr.setRow (w.heap.size + 1) #[.int .i64 R, .slice A l.length c, .slice A' l.length c', .map (some m)]) m (fun ks => if ks = [-1, -1, -1] then some (.bool false) else none) := HM.out.same (setRow_other _ _ _ _ (by have := Hm.out; omega))
        refine bodyPost_ret (results_cell_row rfl _ _ (w.heap.size + 1) 72 _ _ _ rfl HY2 Tryd.underlying72 rfl (by kernel_rfl)) rfl ⟨_, m, rfl, ?_, hmo, by have := Hm.out; omega, below_setRow HB.out (by omega) _⟩
        exact Kd.R_setRow HR2.out HY.out (by intro q hq; simp [kRow] at hq; subst hq; decide) _
end Go.Proofs.YtdllacjkacmghaaDoorD
