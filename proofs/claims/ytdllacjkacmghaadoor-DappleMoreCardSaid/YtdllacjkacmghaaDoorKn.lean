/- The walk of known: a book in which the size of a dapple is known. -/
import Derived.Test.YtdllacjkacmghaaDoorGh
import Derived.Test.YtdllacjkacmghaaDoorWShare
import Derived.Test.YtdllacjkacmghaaDoorWN
import Derived.Test.YtdllacjkacmghaaDoorWNEv
namespace Go.Proofs.YtdllacjkacmghaaDoorK
open Go.RowKit Go.Proofs.YtdllacjkacmghaaDoorW.PrintWords Go.Proofs.YtdllacjkacmghaaDoorW.PrintLast Go.Proofs.YtdllacjkacmghaaDoorW.PrintMore Go.Proofs.YtdllacjkacmghaaDoorH Go.Proofs.YtdllacjkacmghaaDoorD
set_option linter.unusedVariables false
set_option linter.unusedSimpArgs false

theorem infoInts : (Tryd.prog.info? 26).map (fun i => (i.zero, i.size, i.bytes)) = some (some (.slice none 0 0), 1, 24) := by kernel_rfl
theorem infoIn : (Tryd.prog.info? 3).map (fun i => (i.zero, i.size, i.bytes)) = some (some (.int .i64 0), 1, 8) := by kernel_rfl
theorem setCells_one (w : World) (g o : Nat) (v : Value) : w.setCells g o [v] = w.setCell ⟨g, o, none⟩ v := rfl
theorem add_at0 (g k : Nat) : (⟨g, 0, none⟩ : Addr).add k = ⟨g, k, none⟩ := by unfold Addr.add; split <;> simp_all

set_option maxRecDepth 100000 in
set_option maxHeartbeats 2000000 in
theorem calls_known (R : Int) (P : Nat → Prop) (A : Option Addr) (c : Nat) (l : List (List Int)) (h p q : Nat) (w : World) (hV : Kd.V (Kd.slice 3 (Kd.int .i64)) 26 w w.heap.size P (.slice A l.length c) l)
    (hh : h < l.length) (hp : p < (l.getD h []).length) (hq : q ≤ 3) (hl64 : l.length ≤ 64) (hr64 : (l.getD h []).length ≤ 64) :
    Calls Tryd.prog 49 #[.agg #[.int .i64 R, .slice A l.length c], .int .i64 h, .int .i64 p, .int .i64 q] w fun e w' =>
      ∃ v1_ : Value, e = .returned (.agg #[.int .i64 R, v1_]) ∧ Kd.V (Kd.slice 3 (Kd.int .i64)) 26 w' w.heap.size (fun k_ => P k_ ∨ w.heap.size ≤ k_) v1_ (setAt l h p (2 ^ q)) ∧ Below w.heap.size w w' := by
  have hF := Kd.F_bound (Kd.V_at hV).2.2
  have hlc := (Kd.V_at hV).2.1
  obtain ⟨ad, A0, c0, x, rfl, hx, hcell, hlx, hKx⟩ := at_row (Kd.F_now hF) h hh
  have hxd : l.getD h [] = x := by rw [List.getD_eq_getElem?_getD, hx]; rfl
  have hset : setAt l h p (2 ^ q) = l.set h (x.set p (2 ^ q)) := by unfold setAt; rw [hxd]
  rw [hxd] at hp hr64
  rw [hset]
  have HF := Lib.hid hF; clear hF
  have HX := Lib.hid hx; clear hx
  have HK := Lib.hid hKx; clear hKx
  have HC := Lib.hid hcell; clear hcell
  have HLX := Lib.hid hlx; clear hlx
  have HLC := Lib.hid hlc; clear hlc
  clear hV hxd hset
  have hu := Tryd.underlying24
  go_enter Tryd.func49, Tryd.ntmps49
  go_upto_region 2 with (fail)
  generalize hW : ((w.alloc (.cells #[.int .i64 R, .slice (some ad) l.length c] 24)).alloc (.cells #[.int .i64 0, .slice none 0 0] 24)).alloc (.cells #[.int .i64 R, .slice (some ad) l.length c] 24) = W
  have F1 : W.heap[w.heap.size]? = some (.cells #[.int .i64 R, .slice (some ad) l.length c] 24 (0, 0)) := by rw [← hW]; exact blk_alloc (blk_alloc (blk_new w _) _) _
  have F2 : W.heap[w.heap.size + 1]? = some (.cells #[.int .i64 0, .slice none 0 0] 24 (0, 0)) := by rw [← hW]; exact blk_alloc (by have := blk_new (w.alloc (.cells #[.int .i64 R, .slice (some ad) l.length c] 24)) (.cells #[.int .i64 0, .slice none 0 0] 24); simpa using this) _
  have F3 : W.heap[w.heap.size + 1 + 1]? = some (.cells #[.int .i64 R, .slice (some ad) l.length c] 24 (0, 0)) := by rw [← hW]; have := blk_new ((w.alloc (.cells #[.int .i64 R, .slice (some ad) l.length c] 24)).alloc (.cells #[.int .i64 0, .slice none 0 0] 24)) (.cells #[.int .i64 R, .slice (some ad) l.length c] 24); simpa using this
  have B1 : Below w.heap.size w W := by rw [← hW]; exact (((Below.refl _ _).alloc (Nat.le_refl _) _).alloc (by simp) _).alloc (by simp; omega) _
  have hWs : w.heap.size + 1 + 1 < W.heap.size := blk_lt F3
  clear hW
  have H1 := Lib.hid F1; clear F1
  have H2 := Lib.hid F2; clear F2
  have H3 := Lib.hid F3; clear F3
  have HB := Lib.hid B1; clear B1
  go_wp2_with (first | ((with_reducible refine gate_dst (N := 11) rfl ?_); refine Kd.R_lit (Kd.slice 3 (Kd.int .i64)) (w0 := w) w.heap.size 26 ?hg (N := 11) ?hd (xs := ([] : List (List Int))) (inner := []) (ok := fun k => (P k ∧ k < w.heap.size) ∨ W.heap.size ≤ k) (okp := fun _ => False) ?hr ?hp (fun _ hk => hk.elim) (.inr (Nat.le_refl _)) HB.out (below_size HB.out) (by simp) ?_; (case hd => rfl); (case hg => rfl); (case hr => first | (go_simp; done) | (go_simp; rfl)); (case hp => exact Reps.none _ _); intro v3 w3 ho hb hg hn; have c31 : w3.cell? ⟨w.heap.size, 1, none⟩ = some (.slice (some ad) l.length c) := blk_cell (blk_grown H1.out hg (by simp)) 1; have HO3 := Lib.hid ho; have HB3 := Lib.hid hb; have HN3 := Lib.hid hn; have HS3 := Lib.hid (show W.heap.size ≤ w3.heap.size from hg.size); have H13 := Lib.hid (blk_grown H1.out hg (by simp)); have H23 := Lib.hid (blk_grown H2.out hg (by simp)); have H33 := Lib.hid (blk_grown H3.out hg (by simp)); clear ho hb hg hn) | ((with_reducible refine gate_builtin (b := .append) (xs := #[.tmp 11, .tmp 13]) rfl ?_); at_builtin; refine Kd.N_append_rows (Kd.slice 3 (Kd.int .i64)) (w0 := w) w.heap.size rfl (.tmp 11) (.tmp 13) 22 26 (.slice none 0 0) 24 rfl Tryd.underlying22 infoInts rfl (by decide) (by omega) _ ([] : List (List Int)) l (some ad) l.length c (fun k => (P k ∧ k < w.heap.size) ∨ W.heap.size ≤ k) (fun k => P k ∧ k < w.heap.size) rfl rfl (Kd.R_N HO3.out) (Kd.F_below HF.out HB3.out) ?aP (fun k hk => .inr (Nat.le_trans HS3.out hk)) HB3.out (below_size HB3.out) (by simp; omega) ?_; (case aP => exact fun k hk => ⟨.inl hk, fun e => by have := Kd.R_base HO3.out k e.symm; omega⟩); intro v4 w4 ho hb hg hat; rw [List.nil_append] at ho; obtain ⟨gx, cx, rfl, hgx, hgl, cur, hcur⟩ := Kd.N_form ho (by omega); obtain ⟨ad4, had4⟩ : ∃ a : Addr, a = ⟨gx, 0, none⟩ := ⟨_, rfl⟩; have HAD4 := Lib.hid had4; have HO4 := Lib.hid ho; rw [← had4]; have HCUR := Lib.hid hcur; clear had4 hcur; have HB4 := Lib.hid hb; have H14 := Lib.hid (blk_grown H13.out hg (Kd.R_ne HO3.out H13.out (by decide))); have H24 := Lib.hid (blk_grown H23.out hg (Kd.R_ne HO3.out H23.out (by decide))); have H34 := Lib.hid (blk_grown H33.out hg (Kd.R_ne HO3.out H33.out (by decide))); clear ho hb hg hat; have c41 : w4.cell? ⟨w.heap.size + 1 + 1, 1, none⟩ = some (.slice (some ad) l.length c) := blk_cell H34.out 1; have f41 : w4.frozen? ⟨w.heap.size + 1 + 1, 1, none⟩ = false := blk_frozen H34.out 1))
  have HLN := Lib.hid (show l.length = l.length from rfl)
  generalize hW5 : w4.setCell ⟨w.heap.size + 1 + 1, 1, none⟩ (.slice (some ad4) l.length cx) = W5
  have HN5 := Lib.hid (show Kd.N (Kd.slice 3 (Kd.int .i64)) 26 W5 w.heap.size (fun k => (P k ∧ k < w.heap.size) ∨ W.heap.size ≤ k) (.slice (some ⟨gx, 0, none⟩) l.length cx) l by
    rw [← hW5]
    exact Kd.N_mono (Kd.N_far (p := ⟨w.heap.size + 1 + 1, 1, none⟩) (Kd.N_mono (ok' := fun k => ((P k ∧ k < w.heap.size) ∨ W.heap.size ≤ k) ∧ k ≠ w.heap.size + 1 + 1) HO4.out (fun k hk => ⟨hk, by rcases hk with hk | hk <;> omega⟩)) (fun _ hk => hk.2) _) (fun _ hk => hk.1))
  have HCUR5 := Lib.hid (show W5.heap[gx]? = some (.cells cur 26 (0, 0)) by rw [← hW5]; exact blk_far HCUR.out (blk_ne HCUR.out H34.out (by decide)) _)
  have H15 := Lib.hid (show W5.heap[w.heap.size]? = some (.cells #[.int .i64 R, .slice (some ad) l.length c] 24 (0, 0)) by rw [← hW5]; exact blk_far H14.out (by show w.heap.size ≠ w.heap.size + 1 + 1; omega) _)
  have H25 := Lib.hid (show W5.heap[w.heap.size + 1]? = some (.cells #[.int .i64 0, .slice none 0 0] 24 (0, 0)) by rw [← hW5]; exact blk_far H24.out (by show w.heap.size + 1 ≠ w.heap.size + 1 + 1; omega) _)
  have H35 := Lib.hid (show W5.heap[w.heap.size + 1 + 1]? = some (.cells #[.int .i64 R, .slice (some ad4) l.length cx] 24 (0, 0)) by rw [← hW5]; exact blk_set H34.out 1 _)
  have HB5 := Lib.hid (show Below w.heap.size w W5 by rw [← hW5]; exact HB4.out.setCell (by show _ ≤ w.heap.size + 1 + 1; omega) _)
  clear hW5 c31 c41 f41 HN3 HO3 HB3 H13 H23 H33 H14 H24 H34 HO4 HB4 HCUR HB H1 H2 H3
  have hadd4 : ∀ k, ad4.add k = ⟨gx, k, none⟩ := fun k => by rw [HAD4.out]; exact add_at0 gx k
  have HADD4 := Lib.hid hadd4; clear hadd4
  obtain ⟨ch, hch⟩ : ∃ ch, cur[h]? = some ch := by
    obtain ⟨_, rows, hlr, hR, _⟩ := HN5.out
    obtain ⟨_, _, h3⟩ := (Kd.R_reads' hR).2.2
    have hrl : rows.length = l.length := hlr
    obtain ⟨a, ha, h4⟩ := h3 (by omega)
    obtain rfl : (⟨gx, 0, none⟩ : Addr) = a := Option.some.inj ha
    obtain ⟨cs, hl, _, hc⟩ := h4 h (rows[h]'(by omega)) (List.getElem?_eq_getElem _)
    have hl1 : cs.length = 1 := hl
    have := hc 0 (cs[0]'(by omega)) (List.getElem?_eq_getElem _)
    rw [add_at0, blk_cell HCUR5.out] at this
    exact ⟨_, by simpa [Kd.raw, Kd.slice] using this⟩
  have s0 : W5.cell? ⟨w.heap.size + 1 + 1, 1, none⟩ = some (.slice (some ad4) l.length cx) := blk_cell H35.out 1
  have s1 : W5.cell? ⟨w.heap.size, 1, none⟩ = some (.slice (some ad) l.length c) := blk_cell H15.out 1
  have s2 : W5.cell? (ad.add h) = some (.slice A0 x.length c0) := (HB5.out.cell (World.block_lt_of_cell? _ _ HC.out)).trans HC.out
  have s3 : W5.cell? (ad4.add h) = some ch := by rw [HADD4.out]; exact (blk_cell HCUR5.out h).trans hch
  have s4 : W5.frozen? (ad4.add h) = false := by rw [HADD4.out]; exact blk_frozen HCUR5.out h
  have HCH := Lib.hid hch; clear hch
  have hhl : (h : Int) < (l.length : Int) := by omega
  have hh0 : 0 ≤ (h : Int) := by omega
  have hsz5 := below_size HB5.out
  refine start_ (n := 12) (S := fun w' => w'.cell? ⟨w.heap.size + 1 + 1, 1, none⟩ = some (.slice (some ad4) l.length cx) ∧ w'.cell? ⟨w.heap.size, 1, none⟩ = some (.slice (some ad) l.length c) ∧ w'.cell? (ad.add h) = some (.slice A0 x.length c0) ∧ w'.cell? (ad4.add h) = some ch ∧ w'.frozen? (ad4.add h) = false) (ds := [11]) #[false, false, false, false, false, false, false, false, false, false, false, false] (by kernel_rfl) rfl rfl ⟨s0, s1, s2, s3, s4⟩ (fun hHeld => ?_)
  refine pure_ (i := 0) (N := some 16) (v := ?_) (a' := ?_) #[true, false, false, false, false, false, false, false, false, false, false, false] rfl rfl (by kernel_rfl) (fun _ _ _ h => h) (Or.inl ⟨by rfl, ?_⟩) ?_ ?_
  rotate_left
  · intro w'
    go_simp
    with_reducible rfl
  rotate_left
  · simp only [Act.put, List.setIfInBounds_toArray, List.set_cons_zero, List.set_cons_succ, i64_w, i32_w]
    rfl
  refine pure_ (i := 2) (N := some 18) (v := ?_) (a' := ?_) #[true, false, true, false, false, false, false, false, false, false, false, false] rfl rfl (by kernel_rfl) (fun _ _ _ h => h) (Or.inl ⟨by rfl, ?_⟩) ?_ ?_
  rotate_left
  · intro w'
    go_simp
    with_reducible rfl
  rotate_left
  · simp only [Act.put, List.setIfInBounds_toArray, List.set_cons_zero, List.set_cons_succ, i64_w, i32_w]
    rfl
  refine pure_ (i := 4) (N := some 20) (v := ?_) (a' := ?_) #[true, false, true, false, true, false, false, false, false, false, false, false] rfl rfl (by kernel_rfl) (fun _ _ _ h => h) (Or.inl ⟨by rfl, ?_⟩) ?_ ?_
  rotate_left
  · intro w'
    go_simp
    with_reducible rfl
  rotate_left
  · simp only [Act.put, List.setIfInBounds_toArray, List.set_cons_zero, List.set_cons_succ, i64_w, i32_w]
    rfl
  refine pure_ (i := 6) (N := some 22) (v := ?_) (a' := ?_) #[true, false, true, false, true, false, true, false, false, false, false, false] rfl rfl (by kernel_rfl) (fun _ _ _ h => h) (Or.inl ⟨by rfl, ?_⟩) ?_ ?_
  rotate_left
  · intro w'
    go_simp
    with_reducible rfl
  rotate_left
  · simp only [Act.put, List.setIfInBounds_toArray, List.set_cons_zero, List.set_cons_succ, i64_w, i32_w]
    rfl
  refine take_ (i := 1) (N := some 17) (v := ?_) (a' := ?_) #[true, true, true, false, true, false, true, false, false, false, false, false] rfl rfl (by kernel_rfl) (fun _ _ _ h => h) (Or.inl ⟨by rfl, ?_⟩) hHeld ?_ ?_
  rotate_left
  · rintro w' ⟨s0, s1, s2, s3, s4⟩
    go_simp
    with_reducible rfl
  rotate_left
  · simp only [Act.put, List.setIfInBounds_toArray, List.set_cons_zero, List.set_cons_succ, i64_w, i32_w]
    rfl
  refine take_ (i := 5) (N := some 21) (v := ?_) (a' := ?_) #[true, true, true, false, true, true, true, false, false, false, false, false] rfl rfl (by kernel_rfl) (fun _ _ _ h => h) (Or.inl ⟨by rfl, ?_⟩) hHeld ?_ ?_
  rotate_left
  · rintro w' ⟨s0, s1, s2, s3, s4⟩
    go_simp
    with_reducible rfl
  rotate_left
  · simp only [Act.put, List.setIfInBounds_toArray, List.set_cons_zero, List.set_cons_succ, i64_w, i32_w]
    rfl
  refine pure_ (i := 7) (N := some 23) (v := ?_) (a' := ?_) #[true, true, true, false, true, true, true, true, false, false, false, false] rfl rfl (by kernel_rfl) (fun _ _ _ h => h) (Or.inl ⟨by rfl, ?_⟩) ?_ ?_
  rotate_left
  · intro w'
    go_simp
    with_reducible rfl
  rotate_left
  · simp only [Act.put, List.setIfInBounds_toArray, List.set_cons_zero, List.set_cons_succ, i64_w, i32_w]
    rfl
  refine take_ (i := 8) (N := some 24) (v := ?_) (a' := ?_) #[true, true, true, false, true, true, true, true, true, false, false, false] rfl rfl (by kernel_rfl) (fun _ _ _ h => h) (Or.inl ⟨by rfl, ?_⟩) hHeld ?_ ?_
  rotate_left
  · rintro w' ⟨s0, s1, s2, s3, s4⟩
    go_simp
    with_reducible rfl
  rotate_left
  · simp only [Act.put, List.setIfInBounds_toArray, List.set_cons_zero, List.set_cons_succ, i64_w, i32_w]
    rfl
  refine one_ (i := 3) (N := some 19) #[true, true, true, true, true, true, true, true, true, false, false, false] rfl rfl (by kernel_rfl) (by decide) (fun K hK => ?_)
  refine Kd.R_lit_step (Kd.int .i64) (w0 := w) w.heap.size 3 (by rfl) (N := 19) (by rfl) (xs := ([] : List Int)) (inner := []) (ok := fun k => w.heap.size ≤ k) (okp := fun _ => False) (by first | (go_simp; done) | (go_simp; rfl)) (Reps.none _ _) (fun _ hk => hk.elim) hsz5 HB5.out.drew hsz5 (by simp) ?_
  intro v6 w6 ho6 hb6 hg6 hn6
  have HO6 := Lib.hid ho6
  have HB6 := Lib.hid hb6
  have HG6 := Lib.hid (show W5.grownBy w6 none from ⟨hg6.os, hg6.tape, hg6.output, hg6.size, hg6.block⟩)
  have HN6 := Lib.hid hn6
  clear ho6 hb6 hg6 hn6
  refine hK.out _ _ ⟨blk_cell (blk_grown H35.out HG6.out (by simp)) 1, blk_cell (blk_grown H15.out HG6.out (by simp)) 1, (HB6.out.cell (World.block_lt_of_cell? _ _ HC.out)).trans HC.out, (by rw [HADD4.out]; exact (blk_cell (blk_grown HCUR5.out HG6.out (by simp)) h).trans HCH.out), (by rw [HADD4.out]; exact blk_frozen (blk_grown HCUR5.out HG6.out (by simp)) h)⟩ (fun hHeld => ?_)
  clear hK K
  refine norm_ (a' := ?_) ?_ ?_
  rotate_left
  · show Act.put _ (some 19) _ = _
    simp only [Act.put, List.setIfInBounds_toArray, List.set_cons_zero, List.set_cons_succ, i64_w, i32_w]
    rfl
  refine one_ (i := 9) (N := some 25) #[true, true, true, true, true, true, true, true, true, true, false, false] rfl rfl (by kernel_rfl) (by decide) (fun K hK => ?_)
  refine Kd.R_append_rows_step (Kd.int .i64) (Rr := fun y cs => cs = [.int .i64 y]) (w0 := w) w.heap.size (by rfl) (.tmp 19) (.tmp 24) 26 3 (.int .i64 0) 8 (by rfl) Tryd.underlying26 infoIn (by rfl) (by decide) (by decide) v6 ([] : List Int) x A0 x.length c0 (fun k => w.heap.size ≤ k) (fun _ => False) (by rfl) (by rfl) HO6.out (Kd.C_below HK.out HB6.out) (fun _ _ hk => hk) (fun _ hk => hk.elim) (fun k hk => Nat.le_trans (below_size HB6.out) hk) HB6.out (below_size HB6.out) (by simp; omega) ?_
  intro v7 w7 ho7 hb7 hg7 hat7
  rw [List.nil_append] at ho7
  obtain ⟨gr, cr, rfl, hgr, hgrl, cur2, hcur2⟩ := Kd.R_form ho7 (by omega)
  obtain ⟨ad6, had6⟩ : ∃ a : Addr, a = ⟨gr, 0, none⟩ := ⟨_, rfl⟩
  have HAD6 := Lib.hid had6
  rw [← had6]
  have HCU2 := Lib.hid hcur2
  clear had6 hcur2
  have HO7 := Lib.hid ho7
  have HB7 := Lib.hid hb7
  have HG7 := Lib.hid hg7
  have HAT7 := Lib.hid hat7
  clear ho7 hb7 hg7 hat7
  have HCUR7 := Lib.hid (blk_grown (blk_grown HCUR5.out HG6.out (by simp)) HG7.out (Kd.R_ne HO6.out (blk_grown HCUR5.out HG6.out (by simp)) (by decide)))
  have H17 := Lib.hid (blk_grown (blk_grown H15.out HG6.out (by simp)) HG7.out (Kd.R_ne HO6.out (blk_grown H15.out HG6.out (by simp)) (by decide)))
  have H37 := Lib.hid (blk_grown (blk_grown H35.out HG6.out (by simp)) HG7.out (Kd.R_ne HO6.out (blk_grown H35.out HG6.out (by simp)) (by decide)))
  refine hK.out _ _ ⟨blk_cell H37.out 1, blk_cell H17.out 1, (HB7.out.cell (World.block_lt_of_cell? _ _ HC.out)).trans HC.out, (by rw [HADD4.out]; exact (blk_cell HCUR7.out h).trans HCH.out), (by rw [HADD4.out]; exact blk_frozen HCUR7.out h)⟩ (fun hHeld => ?_)
  clear hK K
  refine norm_ (a' := ?_) ?_ ?_
  rotate_left
  · show Act.put _ (some 25) _ = _
    simp only [Act.put, List.setIfInBounds_toArray, List.set_cons_zero, List.set_cons_succ, i64_w, i32_w]
    rfl
  refine pure_ (i := 10) (N := some 26) (v := ?_) (a' := ?_) #[true, true, true, true, true, true, true, true, true, true, true, false] rfl rfl (by kernel_rfl) (fun _ _ _ h => h) (Or.inl ⟨by rfl, ?_⟩) ?_ ?_
  rotate_left
  · intro w'
    go_simp
    with_reducible rfl
  rotate_left
  · simp only [Act.put, List.setIfInBounds_toArray, List.set_cons_zero, List.set_cons_succ, i64_w, i32_w]
    rfl
  refine last_ (i := 11) (N := none) #[true, true, true, true, true, true, true, true, true, true, true, true] rfl rfl (by kernel_rfl) (by decide) (fun K hK => ?_)
  refine skip_ (w1 := ?_) (by rfl) rfl ?_ ?_
  rotate_left
  · go_simp
    rfl
  refine hK.out _ _ ?_
  clear hK K
  refine done_ (by kernel_rfl) ?_

  clear hHeld s0 s1 s2 s3 s4
  generalize hW8 : w7.setCell (ad4.add h) (.slice (some ad6) x.length cr) = W8
  have hW8' : W8 = w7.setCell ⟨gx, h, none⟩ (.slice (some ad6) x.length cr) := by rw [← hW8, HADD4.out]
  have HW8 := Lib.hid hW8'; clear hW8 hW8'
  have hadd6 : ∀ k, ad6.add k = ⟨gr, k, none⟩ := fun k => by rw [HAD6.out]; exact add_at0 gr k
  have HADD6 := Lib.hid hadd6; clear hadd6
  have hxr : gx ≠ gr := blk_ne HCUR7.out HCU2.out (by decide)
  have hgrs : gr ≠ w.heap.size + 1 + 1 := blk_ne HCU2.out H37.out (by decide)
  have HCU8 := Lib.hid (show W8.heap[gr]? = some (.cells cur2 3 (0, 0)) by rw [HW8.out]; exact blk_far HCU2.out (by show gr ≠ gx; omega) _)
  have hch2 : ∃ c2, cur2[p]? = some c2 := by
    obtain ⟨a, ha, hc⟩ := at_nat (Kd.R_reads' HO7.out).2.2 p hp
    obtain rfl : (⟨gr, 0, none⟩ : Addr) = a := Option.some.inj ha
    rw [add_at0, blk_cell HCU2.out] at hc
    exact ⟨_, hc⟩
  obtain ⟨c2, hch2⟩ := hch2
  have H38 := Lib.hid (show W8.heap[w.heap.size + 1 + 1]? = some (.cells #[.int .i64 R, .slice (some ad4) l.length cx] 24 (0, 0)) by rw [HW8.out]; exact blk_far H37.out (by show w.heap.size + 1 + 1 ≠ gx; exact (blk_ne HCUR7.out H37.out (by decide)).symm) _)
  have s0 : W8.cell? ⟨w.heap.size + 1 + 1, 1, none⟩ = some (.slice (some ad4) l.length cx) := blk_cell H38.out 1
  have s1 : W8.cell? (ad4.add h) = some (.slice (some ad6) x.length cr) := by
    rw [HADD4.out, HW8.out, blk_cell (blk_set HCUR7.out h _)]
    have hlt : h < cur.size := (Array.getElem?_eq_some_iff.1 HCH.out).1
    simp [hlt]
  have s2 : W8.cell? (ad6.add p) = some c2 := by rw [HADD6.out]; exact (blk_cell HCU8.out p).trans hch2
  have s3 : W8.frozen? (ad6.add p) = false := by rw [HADD6.out]; exact blk_frozen HCU8.out p
  have hpl : (p : Int) < (x.length : Int) := by omega
  have hp0 : 0 ≤ (p : Int) := by omega
  have HC2 := Lib.hid hch2; clear hch2
  go_wp2_with fail
  refine start_ (n := 10) (S := fun w' => w'.cell? ⟨w.heap.size + 1 + 1, 1, none⟩ = some (.slice (some ad4) l.length cx) ∧ w'.cell? (ad4.add h) = some (.slice (some ad6) x.length cr) ∧ w'.cell? (ad6.add p) = some c2 ∧ w'.frozen? (ad6.add p) = false) (ds := [9]) #[false, false, false, false, false, false, false, false, false, false] (by kernel_rfl) rfl rfl ⟨s0, s1, s2, s3⟩ (fun hHeld => ?_)
  refine pure_ (i := 0) (N := some 27) (v := ?_) (a' := ?_) #[true, false, false, false, false, false, false, false, false, false] rfl rfl (by kernel_rfl) (fun _ _ _ h => h) (Or.inl ⟨by rfl, ?_⟩) ?_ ?_
  rotate_left
  · intro w'
    go_simp
    with_reducible rfl
  rotate_left
  · simp only [Act.put, List.setIfInBounds_toArray, List.set_cons_zero, List.set_cons_succ, i64_w, i32_w]
    rfl
  refine pure_ (i := 2) (N := some 29) (v := ?_) (a' := ?_) #[true, false, true, false, false, false, false, false, false, false] rfl rfl (by kernel_rfl) (fun _ _ _ h => h) (Or.inl ⟨by rfl, ?_⟩) ?_ ?_
  rotate_left
  · intro w'
    go_simp
    with_reducible rfl
  rotate_left
  · simp only [Act.put, List.setIfInBounds_toArray, List.set_cons_zero, List.set_cons_succ, i64_w, i32_w]
    rfl
  refine pure_ (i := 5) (N := some 32) (v := ?_) (a' := ?_) #[true, false, true, false, false, true, false, false, false, false] rfl rfl (by kernel_rfl) (fun _ _ _ h => h) (Or.inl ⟨by rfl, ?_⟩) ?_ ?_
  rotate_left
  · intro w'
    go_simp
    with_reducible rfl
  rotate_left
  · simp only [Act.put, List.setIfInBounds_toArray, List.set_cons_zero, List.set_cons_succ, i64_w, i32_w]
    rfl
  refine pure_ (i := 6) (N := some 33) (v := ?_) (a' := ?_) #[true, false, true, false, false, true, true, false, false, false] rfl rfl (by kernel_rfl) (fun _ _ _ h => h) (Or.inl ⟨by rfl, ?_⟩) ?_ ?_
  rotate_left
  · intro w'
    go_simp
    with_reducible rfl
  rotate_left
  · simp only [Act.put, List.setIfInBounds_toArray, List.set_cons_zero, List.set_cons_succ, i64_w, i32_w]
    rfl
  refine pure_ (i := 7) (N := some 34) (v := ?_) (a' := ?_) #[true, false, true, false, false, true, true, true, false, false] rfl rfl (by kernel_rfl) (fun _ _ _ h => h) (Or.inl ⟨by rfl, ?_⟩) ?_ ?_
  rotate_left
  · intro w'
    go_simp
    with_reducible rfl
  rotate_left
  · simp only [Act.put, List.setIfInBounds_toArray, List.set_cons_zero, List.set_cons_succ, i64_w, i32_w]
    rfl
  refine take_ (i := 1) (N := some 28) (v := ?_) (a' := ?_) #[true, true, true, false, false, true, true, true, false, false] rfl rfl (by kernel_rfl) (fun _ _ _ h => h) (Or.inl ⟨by rfl, ?_⟩) hHeld ?_ ?_
  rotate_left
  · rintro w' ⟨s0, s1, s2, s3⟩
    go_simp
    with_reducible rfl
  rotate_left
  · simp only [Act.put, List.setIfInBounds_toArray, List.set_cons_zero, List.set_cons_succ, i64_w, i32_w]
    rfl
  refine pure_ (i := 3) (N := some 30) (v := ?_) (a' := ?_) #[true, true, true, true, false, true, true, true, false, false] rfl rfl (by kernel_rfl) (fun _ _ _ h => h) (Or.inl ⟨by rfl, ?_⟩) ?_ ?_
  rotate_left
  · intro w'
    go_simp
    with_reducible rfl
  rotate_left
  · simp only [Act.put, List.setIfInBounds_toArray, List.set_cons_zero, List.set_cons_succ, i64_w, i32_w]
    rfl
  refine take_ (i := 4) (N := some 31) (v := ?_) (a' := ?_) #[true, true, true, true, true, true, true, true, false, false] rfl rfl (by kernel_rfl) (fun _ _ _ h => h) (Or.inl ⟨by rfl, ?_⟩) hHeld ?_ ?_
  rotate_left
  · rintro w' ⟨s0, s1, s2, s3⟩
    go_simp
    with_reducible rfl
  rotate_left
  · simp only [Act.put, List.setIfInBounds_toArray, List.set_cons_zero, List.set_cons_succ, i64_w, i32_w]
    rfl
  refine pure_ (i := 8) (N := some 35) (v := ?_) (a' := ?_) #[true, true, true, true, true, true, true, true, true, false] rfl rfl (by kernel_rfl) (fun _ _ _ h => h) (Or.inl ⟨by rfl, ?_⟩) ?_ ?_
  rotate_left
  · intro w'
    go_simp
    with_reducible rfl
  rotate_left
  · simp only [Act.put, List.setIfInBounds_toArray, List.set_cons_zero, List.set_cons_succ, i64_w, i32_w]
    rfl
  refine last_ (i := 9) (N := none) #[true, true, true, true, true, true, true, true, true, true] rfl rfl (by kernel_rfl) (by decide) (fun K hK => ?_)
  refine skip_ (w1 := ?_) (by rfl) rfl ?_ ?_
  rotate_left
  · go_simp
    rfl
  refine hK.out _ _ ?_
  clear hK K
  refine done_ (by kernel_rfl) ?_

  have hpw : wrap64 ((2 : Int) ^ q) = (2 : Int) ^ q := by
    obtain rfl | rfl | rfl | rfl : q = 0 ∨ q = 1 ∨ q = 2 ∨ q = 3 := by omega
    all_goals simp [wrap64]
  rw [hpw]
  clear hpw s0 s1 s2 s3
  generalize hW9 : (W8.setCell (ad6.add p) (.int .i64 (2 ^ q))).drew = W9
  have hW9' : W9 = (W8.setCell ⟨gr, p, none⟩ (.int .i64 (2 ^ q))).drew := by rw [← hW9, HADD6.out]
  have HW9 := Lib.hid hW9'; clear hW9 hW9'
  have H27 := blk_grown (blk_grown H25.out HG6.out (by simp)) HG7.out (Kd.R_ne HO6.out (blk_grown H25.out HG6.out (by simp)) (by decide))
  have H28 : W8.heap[w.heap.size + 1]? = some (.cells #[.int .i64 0, .slice none 0 0] 24 (0, 0)) := by rw [HW8.out]; exact blk_far H27 (by show w.heap.size + 1 ≠ gx; exact (blk_ne HCUR7.out H27 (by decide)).symm) _
  have H29 : W9.heap[w.heap.size + 1]? = some (.cells #[.int .i64 0, .slice none 0 0] 24 (0, 0)) := by rw [HW9.out]; exact blk_drew (blk_far H28 (by show w.heap.size + 1 ≠ gr; exact (blk_ne HCU8.out H28 (by decide)).symm) _)
  have H39 : W9.heap[w.heap.size + 1 + 1]? = some (.cells #[.int .i64 R, .slice (some ad4) l.length cx] 24 (0, 0)) := by rw [HW9.out]; exact blk_drew (blk_far H38.out (by show w.heap.size + 1 + 1 ≠ gr; omega) _)
  have e0 : W9.cell? ⟨w.heap.size + 1, 0, none⟩ = some (.int .i64 0) := blk_cell H29 0
  have e1 : W9.cell? ⟨w.heap.size + 1, 1, none⟩ = some (.slice none 0 0) := blk_cell H29 1
  have e2 : W9.frozen? ⟨w.heap.size + 1, 0, none⟩ = false := blk_frozen H29 0
  have e3 : W9.frozen? ⟨w.heap.size + 1, 1, none⟩ = false := blk_frozen H29 1
  have d0 : W9.cell? ⟨w.heap.size + 1 + 1, 0, none⟩ = some (.int .i64 R) := blk_cell H39 0
  have d1 : W9.cell? ⟨w.heap.size + 1 + 1, 1, none⟩ = some (.slice (some ad4) l.length cx) := blk_cell H39 1
  have H2 := Lib.hid H29; clear H27 H28 H29 H39
  go_wp2_with fail
  generalize hW10 : (W9.setCell ⟨w.heap.size + 1, 0, none⟩ (.int .i64 R)).setCell ⟨w.heap.size + 1, 1, none⟩ (.slice (some ad4) l.length cx) = W10
  have HR10 : W10.heap[w.heap.size + 1]? = some (.cells #[.int .i64 R, .slice (some ad4) l.length cx] 24 (0, 0)) := by rw [← hW10]; exact blk_set (blk_set H2.out 0 _) 1 _
  refine bodyPost_ret (results_cell_row rfl _ _ (w.heap.size + 1) 24 #[.int .i64 R, .slice (some ad4) l.length cx] (0, 0) _ rfl HR10 Tryd.underlying24 rfl (by kernel_rfl)) rfl ?_
  have hgr5 : W5.heap.size ≤ gr := by
    obtain ⟨b, hb1, hb2⟩ := HN6.out
    have hb2 : W5.heap.size ≤ b := hb2
    rcases HAT7.out with h1 | ⟨b', h1, h2⟩
    · rw [hb1] at h1
      have : gr = b := by simpa [Value.ownBlock] using h1
      omega
    · have : gr = b' := by simpa [Value.ownBlock] using h1
      have := HG6.out.size
      omega
  have hgxW : W.heap.size ≤ gx ∨ (P gx ∧ gx < w.heap.size) := by
    have := HN5.out.1 gx (by simp [Value.ownBlock])
    exact this.symm
  have hgx6 : some gx ≠ v6.ownBlock := Kd.R_ne HO6.out (blk_grown HCUR5.out HG6.out (by simp)) (by decide)
  have hs10 : ∀ {α : Type} {d : Kd α} {e : Nat} {ok : Nat → Prop} {v : Value} {xs : List α}, d.R e W9 w.heap.size ok v xs → (∀ q, q ∈ e :: d.E → q ≠ 24) → d.R e W10 w.heap.size ok v xs := fun hr ht => by
    rw [← hW10]
    exact Kd.R_set (Kd.R_set hr H2.out ht 0 _) (blk_set H2.out 0 _) ht 1 _
  obtain ⟨h0, rows, hlr, hR, hf⟩ := HN5.out
  have hrl : rows.length = l.length := hlr
  have hR7 := Kd.R_grown (Kd.R_grown hR HG6.out (fun k _ => by simp)) HG7.out (fun k hk => by rw [hk]; simpa [Value.ownBlock] using hgx6)
  obtain ⟨hR8, _⟩ := Kd.R_seg hR7 (h : Int) hh0 (by omega) (c := [ch]) (seg := [.slice (some ad6) x.length cr]) (j := 0) (okp := fun _ => False) rfl (fun j u hj => by
      cases j with
      | zero => simp at hj; subst hj; exact (by simpa [Kd.raw, Kd.slice] using (blk_cell HCUR7.out h).trans HCH.out)
      | succ j => simp at hj) (by simp [Kd.raw, Kd.slice]) (x' := [.slice (some ad6) x.length cr]) ⟨by simp, by simp [Kd.slice], by simp [Value.oneCell']⟩ (fun _ hk => hk.elim)
  have hsz : (Kd.raw (Kd.slice 3 (Kd.int .i64)).sz).sz = 1 := rfl
  rw [setCells_one] at hR8
  rw [show ((h : Int)).toNat = h by simp, hsz, Nat.mul_one, Nat.add_zero, ← HW8.out] at hR8
  have hR9 := Kd.R_drew (Kd.R_set hR8 HCU8.out (by intro q hq; simp [Kd.raw] at hq; subst hq; decide) p (.int .i64 (2 ^ q)))
  rw [← HW9.out] at hR9
  have hR10 := hs10 hR9 (by intro q hq; simp [Kd.raw] at hq; subst hq; decide)
  have hX8 := Kd.R_set HO7.out HCUR7.out (by intro q hq; simp [Kd.int, Kd.scalar] at hq; subst hq; decide) h (.slice (some ad6) x.length cr)
  rw [← HW8.out] at hX8
  obtain ⟨hX9, _⟩ := Kd.R_seg hX8 (p : Int) hp0 (by omega) (c := [c2]) (seg := [.int .i64 (2 ^ q)]) (j := 0) (okp := fun _ => False) rfl (fun j u hj => by
      cases j with
      | zero => simp at hj; subst hj; exact (by simpa [Kd.int, Kd.scalar] using (blk_cell HCU8.out p).trans HC2.out)
      | succ j => simp at hj) (by simp [Kd.int, Kd.scalar]) (x' := 2 ^ q) rfl (fun _ hk => hk.elim)
  have hsz1 : (Kd.int .i64).sz = 1 := rfl
  rw [setCells_one] at hX9
  rw [show ((p : Int)).toNat = p by simp, hsz1, Nat.mul_one, Nat.add_zero] at hX9
  have hX9d := Kd.R_drew hX9
  rw [← HW9.out] at hX9d
  have hX10 := hs10 hX9d (by intro q hq; simp [Kd.int, Kd.scalar] at hq; subst hq; decide)
  have hN : Kd.N (Kd.slice 3 (Kd.int .i64)) 26 W10 w.heap.size (fun k => P k ∨ w.heap.size ≤ k) (.slice (some ⟨gx, 0, none⟩) l.length cx) (l.set h (x.set p (2 ^ q))) := by
    refine ⟨fun k hk => .inr ?_, rows.set h [.slice (some ad6) x.length cr], by rw [List.length_set, List.length_set, hrl], hR10, fun j y cc hy hcc => ?_⟩
    · have : gx = k := by simpa [Value.ownBlock] using hk
      omega
    · by_cases hj : j = h
      · subst hj
        rw [List.getElem?_set_self hh] at hy
        rw [List.getElem?_set_self (by omega)] at hcc
        obtain rfl := Option.some.inj hy
        obtain rfl := Option.some.inj hcc
        rw [HAD6.out]
        refine Kd.FK_mono (Kd.FK_of_M (Kd.M_row (Kd.R_tight rfl hX10))) (fun k hk => ?_)
        have : gr = k := by simpa [Value.ownBlock] using hk.symm
        subst this
        exact ⟨.inr (by omega), by simp [Value.ownBlock]; omega⟩
      · rw [List.getElem?_set_ne (fun e => hj e.symm)] at hy hcc
        refine Kd.FK_mono (Kd.FK_step (hf j y cc hy hcc) (fun k hk hlt => ?_)) (fun k hk => ⟨hk.1.imp (fun z => z.1) (fun z => by omega), hk.2⟩)
        have hkx : k ≠ gx := fun e => hk.2 (by rw [e]; simp [Value.ownBlock])
        have hks : k ≠ w.heap.size + 1 := fun e => by rcases hk.1 with z | z <;> omega
        have hk6 : some k ≠ v6.ownBlock := fun e => by
          obtain ⟨b, hb1, hb2⟩ := HN6.out
          rw [hb1] at e
          have hb2 : W5.heap.size ≤ b := hb2
          have : k = b := by simpa using e
          omega
        rw [← hW10, Below.heap_setCell _ ⟨w.heap.size + 1, 1, none⟩ _ k hks, Below.heap_setCell _ ⟨w.heap.size + 1, 0, none⟩ _ k hks, HW9.out]
        show (W8.setCell ⟨gr, p, none⟩ _).heap[k]? = _
        rw [Below.heap_setCell _ ⟨gr, p, none⟩ _ k (by show k ≠ gr; omega), HW8.out, Below.heap_setCell _ ⟨gx, h, none⟩ _ k hkx, HG7.out.block k (by have := HG6.out.size; omega) hk6, HG6.out.block k hlt (by simp)]
  refine ⟨_, by rw [HAD4.out], Kd.N_V hN, ?_⟩
  rw [← hW10, HW9.out, HW8.out]
  exact (((((HB7.out.setCell (by show _ ≤ gx; omega) _).setCell (by show _ ≤ gr; omega) _).drew).setCell (by show _ ≤ w.heap.size + 1; omega) _).setCell (by show _ ≤ w.heap.size + 1; omega) _)
def skewbaldlaw07_known.f (a0_0 : Int) (l0_1 : List (List Int)) (a1 a2 a3 : Int) : Option (Int × List (List Int)) :=
  if 0 ≤ a1 ∧ a1 < l0_1.length ∧ 0 ≤ a2 ∧ a2 < (l0_1.getD a1.toNat []).length ∧ 0 ≤ a3 ∧ a3 ≤ 3 ∧ l0_1.length ≤ 64 ∧ (l0_1.getD a1.toNat []).length ≤ 64 then some (a0_0, setAt l0_1 a1.toNat a2.toNat (2 ^ a3.toNat)) else none
theorem skewbaldlaw07_known.calls (a0_0 : Int) (P0_1_ : Nat → Prop) (A0_1 : Option Addr) (c0_1 : Nat) (l0_1 : List (List Int)) (a1 a2 a3 : Int) (r1 : Int) (r2 : List (List Int)) (w : World) (hs0_1 : Kd.V (Kd.slice 3 (Kd.int .i64)) 26 w w.heap.size (fun k_ => P0_1_ k_) (.slice A0_1 l0_1.length c0_1) l0_1) (h : skewbaldlaw07_known.f a0_0 l0_1 a1 a2 a3 = some (r1, r2)) :
    Calls Tryd.prog 49 #[.agg #[.int .i64 a0_0, .slice A0_1 l0_1.length c0_1], .int .i64 a1, .int .i64 a2, .int .i64 a3] w fun e w' => ∃ v1_ : Value, e = .returned (.agg #[.int .i64 r1, v1_]) ∧ Kd.V (Kd.slice 3 (Kd.int .i64)) 26 w' w.heap.size (fun k_ => (P0_1_ k_ ∨ w.heap.size ≤ k_)) v1_ r2 ∧ Below w.heap.size w w' := by
  unfold skewbaldlaw07_known.f at h
  split at h
  · rename_i hc
    obtain ⟨h1, h2, h3, h4, h5, h6, h7, h8⟩ := hc
    obtain ⟨i, rfl⟩ : ∃ i : Nat, a1 = i := ⟨a1.toNat, by omega⟩
    obtain ⟨j, rfl⟩ : ∃ j : Nat, a2 = j := ⟨a2.toNat, by omega⟩
    obtain ⟨k, rfl⟩ : ∃ k : Nat, a3 = k := ⟨a3.toNat, by omega⟩
    simp only [Int.toNat_natCast, Option.some.injEq, Prod.mk.injEq] at h h4 h8
    obtain ⟨rfl, rfl⟩ := h
    exact calls_known a0_0 P0_1_ A0_1 c0_1 l0_1 i j k w hs0_1 (by omega) (by omega) (by omega) h7 h8
  · cases h
end Go.Proofs.YtdllacjkacmghaaDoorK
