/- The walks of package dapple: whether two horses are the same. The walks of package dapple: counting pairs. -/
import Derived.Test.YtdllacjkacmghaaDoorGb
import Derived.Test.YtdllacjkacmghaaDoorGa
namespace Go.Proofs.YtdllacjkacmghaaDoorD
open Go.RowKit Go.Proofs.YtdllacjkacmghaaDoorW.PrintWords Go.Proofs.YtdllacjkacmghaaDoorW.PrintLast Go.Proofs.YtdllacjkacmghaaDoorW.PrintMore Go.Proofs.YtdllacjkacmghaaDoorH
set_option linter.unusedVariables false
set_option linter.unusedSimpArgs false

/-- can (0), or surely are (1), two rows the same -/
def alB (what : Nat) : Int → Int → Bool := if what = 0 then canB else sureB
def sameB (R : Nat) (rows : List (List Int)) (one other what : Nat) : Bool := !(turnsL R (rows.getD (min one other) []) (rows.getD (max one other) []) (alB what)).isEmpty
/-- what the map knows is so -/
def Memo (R : Nat) (rows : List (List Int)) (f : List Int → Option Value) : Prop := ∀ (i j k : Nat) v, f [(i : Int), (j : Int), (k : Int)] = some v → v = .bool (sameB R rows i j k)
/-- rows as opened makes them, of a valid book -/
def Rows8 (rows : List (List Int)) : Prop := ∀ r ∈ rows, el r 0 ≠ 0

theorem grown_trans {A B C : World} {m : Nat} (h : A.grownBy B (some m)) (k : B.grownBy C (some m)) : A.grownBy C (some m) :=
  ⟨k.os.trans h.os, k.tape.trans h.tape, k.output.trans h.output, Nat.le_trans h.size k.size, fun i hi hr => (k.block i (Nat.lt_of_lt_of_le hi h.size) hr).trans (h.block i hi hr)⟩
theorem at_rowC {w : World} {A : Option Addr} {n : Nat} {l : List (List Int)} (h : kRow.C w A n l) (k : Nat) (hk : k < n) : ∃ ad, A = some ad ∧ w.cell? (ad.add (k * 8)) = some (.int .i64 (el (l.getD k []) 0)) ∧ ∀ j, 0 < j → j < 8 → w.cell? ⟨(ad.add (k * 8)).block, (ad.add (k * 8)).off + j, none⟩ = some (.int .i64 (el (l.getD k []) j)) := by
  obtain ⟨ad, c, e, _, hK, hc⟩ := Kd.C_get h [] (k : Int) (by omega) (by omega)
  have : c = (rowA (l.getD k [])).toList := by
    have h0 : c = (rowA (l.getD (k : Int).toNat [])).toList := hK
    simpa using h0
  subst this
  have h2 : ∀ j, j < 8 → w.cell? (ad.add (k * 8 + j)) = some (.int .i64 (el (l.getD k []) j)) := fun j hj => by
    have := hc j (.int .i64 (el (l.getD k []) j)) (by rw [Array.getElem?_toList]; exact rowA_get _ _ hj)
    simpa [kRow] using this
  exact ⟨ad, e, h2 0 (by omega), fun j h0 h8 => by rw [← add_field ad (k * 8) j h0]; exact h2 j h8⟩

theorem getD_mem {l : List (List Int)} {p : Nat} (h : p < l.length) : l.getD p [] ∈ l := by
  rw [show l.getD p [] = l[p] from by simp [h]]; exact List.getElem_mem h

set_option maxRecDepth 100000 in
set_option maxHeartbeats 1000000 in
theorem calls_same (R : Nat) (hR : R ≤ 8) (HA : Option Addr) (hn hc : Nat) (RA : Option Addr) (rc m : Nat) (rows : List (List Int)) (f : List Int → Option Value) (i j k : Nat) (hi : i < rows.length) (hj : j < rows.length) (hk : k < 2) (w : World)
    (hG : Glob w) (hrow : kRow.C w RA rows.length rows) (hrc : rows.length ≤ rc) (h8 : Rows8 rows) (hM : MapFn 3 w m f) (hf : Memo R rows f) :
    Calls Tryd.prog 64 #[.agg #[.int .i64 R, .slice HA hn hc, .slice RA rows.length rc, .map (some m)], .int .i64 i, .int .i64 j, .int .i64 k] w fun e w' =>
      e = .returned (.bool (sameB R rows i j k)) ∧ (∃ f', MapFn 3 w' m f' ∧ Memo R rows f') ∧ w.grownBy w' (some m) := by
  have hlk := fun W (h : MapFn 3 W m f) => run_lookup_fn 70 4 Tryd.underlying70 turnKey (z := .bool false) (fun w => by kernel_rfl) h [(i : Int), (j : Int), (k : Int)] rfl true
  have heq : ∀ W, (Op.equalIn 10000 102 (.agg #[.int .i64 i, .int .i64 j, .int .i64 k]) (.agg #[.int .i64 (-1), .int .i64 (-1), .int .i64 (-1)])).run Tryd.prog W = .ok false W := fun W => (eqTurn 9998 W _ _ _ _ _ _).trans (by
    have : ((i : Int) == -1) = false := by simp
    rw [this, Bool.false_and])
  have hM2 := (hM.alloc (.cells #[.int .i64 R, .slice HA hn hc, .slice RA rows.length rc, .map (some m)] 72)).alloc (.cells #[.int .i64 i, .int .i64 j, .int .i64 k] 102)
  obtain ⟨hn0, hn1, hn2⟩ : w.cell? ⟨1, 0, none⟩ = some (.int .i64 (-1)) ∧ w.cell? ⟨1, 1, none⟩ = some (.int .i64 (-1)) ∧ w.cell? ⟨1, 2, none⟩ = some (.int .i64 (-1)) := ⟨hG.never0, hG.never1, hG.never2⟩
  have hlt : 1 < w.heap.size := World.block_lt_of_cell? w _ hn0
  have hlt1 : 1 < w.heap.size + 1 := by omega
  have HG := Lib.hid hG; clear hG
  have HM := Lib.hid hM; clear hM
  have HROW := Lib.hid hrow; clear hrow
  have H8 := Lib.hid h8; clear h8
  have HF := Lib.hid hf; clear hf
  have hl2 := hlk _ hM2
  clear hlk
  have HM2 := Lib.hid hM2; clear hM2
  cases hfk : f [(i : Int), (j : Int), (k : Int)] with
  | some v =>
    obtain rfl := HF.out i j k v hfk
    rw [hfk] at hl2
    clear hfk
    have hl3 : (Instr.lookup 70 (.map (some m)) (.agg #[.int .i64 i, .int .i64 j, .int .i64 k]) true).run Tryd.prog ((w.alloc (.cells #[.int .i64 R, .slice HA hn hc, .slice RA rows.length rc, .map (some m)] 72)).alloc (.cells #[.int .i64 i, .int .i64 j, .int .i64 k] 102)) = .ok (.tuple #[.bool (sameB R rows i j k), .bool true]) ((w.alloc (.cells #[.int .i64 R, .slice HA hn hc, .slice RA rows.length rc, .map (some m)] 72)).alloc (.cells #[.int .i64 i, .int .i64 j, .int .i64 k] 102)) := hl2
    clear hl2
    go_enter Tryd.func64, Tryd.ntmps64
    go_wp2
    go_ret
    exact ⟨rfl, ⟨f, HM2.out, HF.out⟩, grown_of_below (below_alloc (below_alloc (Below.refl _ _) _) _) _⟩
  | none =>
    rw [hfk] at hl2
    clear hfk
    have hl3 : (Instr.lookup 70 (.map (some m)) (.agg #[.int .i64 i, .int .i64 j, .int .i64 k]) true).run Tryd.prog ((w.alloc (.cells #[.int .i64 R, .slice HA hn hc, .slice RA rows.length rc, .map (some m)] 72)).alloc (.cells #[.int .i64 i, .int .i64 j, .int .i64 k] 102)) = .ok (.tuple #[.bool false, .bool false]) ((w.alloc (.cells #[.int .i64 R, .slice HA hn hc, .slice RA rows.length rc, .map (some m)] 72)).alloc (.cells #[.int .i64 i, .int .i64 j, .int .i64 k] 102)) := hl2
    clear hl2
    go_enter Tryd.func64, Tryd.ntmps64
    go_wp2_with fail
    clear hl3
    obtain ⟨p, q, hp, hq, hpl, hql⟩ : ∃ p q, p = min i j ∧ q = max i j ∧ p < rows.length ∧ q < rows.length := ⟨_, _, rfl, rfl, by omega, by omega⟩
    obtain ⟨ad, hA, hcp0, hcp⟩ := at_rowC HROW.out p hpl
    obtain ⟨ad', hA', hcq0, hcq⟩ := at_rowC HROW.out q hql
    obtain rfl : ad = ad' := Option.some.inj (hA.symm.trans hA')
    subst hA
    have h8p : Hid (el (rows.getD p []) 0 ≠ 0) := (show ∀ r ∈ rows, el r 0 ≠ 0 from H8.out) _ (getD_mem hpl)
    obtain ⟨rp, hrp⟩ : ∃ rp, rows.getD p [] = rp := ⟨_, rfl⟩
    obtain ⟨rq, hrq⟩ : ∃ rq, rows.getD q [] = rq := ⟨_, rfl⟩
    rw [hrp] at hcp0 hcp h8p
    rw [hrq] at hcq0 hcq
    have HRP := Lib.hid hrp; clear hrp
    have HRQ := Lib.hid hrq; clear hrq
    have hmn : (if j < i then (j : Int) else (i : Int)) = (p : Int) := by rw [hp]; split <;> omega
    have hmx : (if i < j then (j : Int) else (i : Int)) = (q : Int) := by rw [hq]; split <;> omega
    have HP := Lib.hid hp; clear hp
    have HQ := Lib.hid hq; clear hq
    have hpl1 : (p : Int) < (rows.length : Int) := by omega
    have hql1 : (q : Int) < (rows.length : Int) := by omega
    have hk2 : (k : Int) < 2 := by omega
    have hX0 := blk_alloc (blk_new w (.cells #[.int .i64 R, .slice HA hn hc, .slice (some ad) rows.length rc, .map (some m)] 72)) (.cells #[.int .i64 i, .int .i64 j, .int .i64 k] 102)
    have hX1 := blk_new (w.alloc (.cells #[.int .i64 R, .slice HA hn hc, .slice (some ad) rows.length rc, .map (some m)] 72)) (.cells #[.int .i64 i, .int .i64 j, .int .i64 k] 102)
    rw [World.size_alloc] at hX1
    have hB0 : Below w.heap.size w ((w.alloc (.cells #[.int .i64 R, .slice HA hn hc, .slice (some ad) rows.length rc, .map (some m)] 72)).alloc (.cells #[.int .i64 i, .int .i64 j, .int .i64 k] 102)) := below_alloc (below_alloc (Below.refl _ _) _) _
    revert hX0 hX1 hB0
    have HM3 := HM2.out
    clear HM2
    revert HM3
    have hsz : ((w.alloc (.cells #[.int .i64 R, .slice HA hn hc, .slice (some ad) rows.length rc, .map (some m)] 72)).alloc (.cells #[.int .i64 i, .int .i64 j, .int .i64 k] 102)).heap.size = w.heap.size + 2 := by simp
    revert hsz
    generalize (w.alloc (.cells #[.int .i64 R, .slice HA hn hc, .slice (some ad) rows.length rc, .map (some m)] 72)).alloc (.cells #[.int .i64 i, .int .i64 j, .int .i64 k] 102) = W
    intro hsz hM3 hX0 hX1 hB0
    obtain ⟨a, al, hal, hcell, hale⟩ : ∃ a al, Alike a al ∧ w.cell? ⟨0, k, none⟩ = some (.func (.func a) #[] #[]) ∧ al = alB k := by
      match k, hk with
      | 0, _ => exact ⟨_, _, alike_can, HG.out.can, rfl⟩
      | 1, _ => exact ⟨_, _, alike_sure, HG.out.sure, rfl⟩
    have HALE := Lib.hid hale; clear hale
    have hcellW := pw_cell_below hB0 hcell
    obtain ⟨b0, b1, b2, b3⟩ : W.cell? ⟨w.heap.size, 0, none⟩ = some (.int .i64 R) ∧ W.cell? ⟨w.heap.size, 1, none⟩ = some (.slice HA hn hc) ∧ W.cell? ⟨w.heap.size, 2, none⟩ = some (.slice (some ad) rows.length rc) ∧ W.cell? ⟨w.heap.size, 3, none⟩ = some (.map (some m)) := ⟨blk_cell hX0 0, blk_cell hX0 1, blk_cell hX0 2, blk_cell hX0 3⟩
    have hP0 := pw_cell_below hB0 hcp0
    have hQ0 := pw_cell_below hB0 hcq0
    have hP := fun e h1 he => pw_cell_below hB0 (hcp e h1 he)
    have hQ := fun e h1 he => pw_cell_below hB0 (hcq e h1 he)
    refine start_ (n := 20) (S := fun w' => w'.cell? ⟨w.heap.size, 0, none⟩ = some (.int .i64 R) ∧ w'.cell? ⟨w.heap.size, 1, none⟩ = some (.slice HA hn hc) ∧ w'.cell? ⟨w.heap.size, 2, none⟩ = some (.slice (some ad) rows.length rc) ∧ w'.cell? ⟨w.heap.size, 3, none⟩ = some (.map (some m)) ∧ w'.cell? ⟨0, k, none⟩ = some (.func (.func a) #[] #[]) ∧ w'.cell? (ad.add (p * 8)) = some (.int .i64 (el rp 0)) ∧ w'.cell? ⟨(ad.add (p * 8)).block, (ad.add (p * 8)).off + 1, none⟩ = some (.int .i64 (el rp 1)) ∧ w'.cell? ⟨(ad.add (p * 8)).block, (ad.add (p * 8)).off + 2, none⟩ = some (.int .i64 (el rp 2)) ∧ w'.cell? ⟨(ad.add (p * 8)).block, (ad.add (p * 8)).off + 3, none⟩ = some (.int .i64 (el rp 3)) ∧ w'.cell? ⟨(ad.add (p * 8)).block, (ad.add (p * 8)).off + 4, none⟩ = some (.int .i64 (el rp 4)) ∧ w'.cell? ⟨(ad.add (p * 8)).block, (ad.add (p * 8)).off + 5, none⟩ = some (.int .i64 (el rp 5)) ∧ w'.cell? ⟨(ad.add (p * 8)).block, (ad.add (p * 8)).off + 6, none⟩ = some (.int .i64 (el rp 6)) ∧ w'.cell? ⟨(ad.add (p * 8)).block, (ad.add (p * 8)).off + 7, none⟩ = some (.int .i64 (el rp 7)) ∧ w'.cell? (ad.add (q * 8)) = some (.int .i64 (el rq 0)) ∧ w'.cell? ⟨(ad.add (q * 8)).block, (ad.add (q * 8)).off + 1, none⟩ = some (.int .i64 (el rq 1)) ∧ w'.cell? ⟨(ad.add (q * 8)).block, (ad.add (q * 8)).off + 2, none⟩ = some (.int .i64 (el rq 2)) ∧ w'.cell? ⟨(ad.add (q * 8)).block, (ad.add (q * 8)).off + 3, none⟩ = some (.int .i64 (el rq 3)) ∧ w'.cell? ⟨(ad.add (q * 8)).block, (ad.add (q * 8)).off + 4, none⟩ = some (.int .i64 (el rq 4)) ∧ w'.cell? ⟨(ad.add (q * 8)).block, (ad.add (q * 8)).off + 5, none⟩ = some (.int .i64 (el rq 5)) ∧ w'.cell? ⟨(ad.add (q * 8)).block, (ad.add (q * 8)).off + 6, none⟩ = some (.int .i64 (el rq 6)) ∧ w'.cell? ⟨(ad.add (q * 8)).block, (ad.add (q * 8)).off + 7, none⟩ = some (.int .i64 (el rq 7))) (ds := [18]) #[false, false, false, false, false, false, false, false, false, false, false, false, false, false, false, false, false, false, false, false] (by kernel_rfl) rfl rfl ⟨b0, b1, b2, b3, hcellW, hP0, (hP 1 (by omega) (by omega)), (hP 2 (by omega) (by omega)), (hP 3 (by omega) (by omega)), (hP 4 (by omega) (by omega)), (hP 5 (by omega) (by omega)), (hP 6 (by omega) (by omega)), (hP 7 (by omega) (by omega)), hQ0, (hQ 1 (by omega) (by omega)), (hQ 2 (by omega) (by omega)), (hQ 3 (by omega) (by omega)), (hQ 4 (by omega) (by omega)), (hQ 5 (by omega) (by omega)), (hQ 6 (by omega) (by omega)), (hQ 7 (by omega) (by omega))⟩ (fun hHeld => ?_)
    refine pure_ (i := 1) (N := some 31) (v := ?_) (a' := ?_) #[false, true, false, false, false, false, false, false, false, false, false, false, false, false, false, false, false, false, false, false] rfl rfl (by kernel_rfl) (fun _ _ _ h => h) (Or.inl ⟨by rfl, ?_⟩) ?_ ?_
    rotate_left
    · intro w'
      go_simp
      with_reducible rfl
    rotate_left
    · simp only [Act.put, List.setIfInBounds_toArray, List.set_cons_zero, List.set_cons_succ, i64_w, i32_w]
      rfl
    refine pure_ (i := 3) (N := some 33) (v := ?_) (a' := ?_) #[false, true, false, true, false, false, false, false, false, false, false, false, false, false, false, false, false, false, false, false] rfl rfl (by kernel_rfl) (fun _ _ _ h => h) (Or.inl ⟨by rfl, ?_⟩) ?_ ?_
    rotate_left
    · intro w'
      go_simp
      with_reducible rfl
    rotate_left
    · simp only [Act.put, List.setIfInBounds_toArray, List.set_cons_zero, List.set_cons_succ, i64_w, i32_w]
      rfl
    refine pure_ (i := 4) (N := some 34) (v := ?_) (a' := ?_) #[false, true, false, true, true, false, false, false, false, false, false, false, false, false, false, false, false, false, false, false] rfl rfl (by kernel_rfl) (fun _ _ _ h => h) (Or.inl ⟨by rfl, ?_⟩) ?_ ?_
    rotate_left
    · intro w'
      go_simp
      with_reducible rfl
    rotate_left
    · simp only [Act.put, List.setIfInBounds_toArray, List.set_cons_zero, List.set_cons_succ, i64_w, i32_w]
      rfl
    refine pure_ (i := 5) (N := some 35) (v := ?_) (a' := ?_) #[false, true, false, true, true, true, false, false, false, false, false, false, false, false, false, false, false, false, false, false] rfl rfl (by kernel_rfl) (fun _ _ _ h => h) (Or.inl ⟨by rfl, ?_⟩) ?_ ?_
    rotate_left
    · intro w'
      go_simp
      with_reducible rfl
    rotate_left
    · simp only [Act.put, List.setIfInBounds_toArray, List.set_cons_zero, List.set_cons_succ, i64_w, i32_w]
      rfl
    refine pure_ (i := 8) (N := some 38) (v := ?_) (a' := ?_) #[false, true, false, true, true, true, false, false, true, false, false, false, false, false, false, false, false, false, false, false] rfl rfl (by kernel_rfl) (fun _ _ _ h => h) (Or.inl ⟨by rfl, ?_⟩) ?_ ?_
    rotate_left
    · intro w'
      go_simp
      with_reducible rfl
    rotate_left
    · simp only [Act.put, List.setIfInBounds_toArray, List.set_cons_zero, List.set_cons_succ, i64_w, i32_w]
      rfl
    refine pure_ (i := 10) (N := some 40) (v := ?_) (a' := ?_) #[false, true, false, true, true, true, false, false, true, false, true, false, false, false, false, false, false, false, false, false] rfl rfl (by kernel_rfl) (fun _ _ _ h => h) (Or.inl ⟨by rfl, ?_⟩) ?_ ?_
    rotate_left
    · intro w'
      go_simp
      with_reducible rfl
    rotate_left
    · simp only [Act.put, List.setIfInBounds_toArray, List.set_cons_zero, List.set_cons_succ, i64_w, i32_w]
      rfl
    refine pure_ (i := 11) (N := some 41) (v := ?_) (a' := ?_) #[false, true, false, true, true, true, false, false, true, false, true, true, false, false, false, false, false, false, false, false] rfl rfl (by kernel_rfl) (fun _ _ _ h => h) (Or.inl ⟨by rfl, ?_⟩) ?_ ?_
    rotate_left
    · intro w'
      go_simp
      with_reducible rfl
    rotate_left
    · simp only [Act.put, List.setIfInBounds_toArray, List.set_cons_zero, List.set_cons_succ, i64_w, i32_w]
      rfl
    refine pure_ (i := 12) (N := some 42) (v := ?_) (a' := ?_) #[false, true, false, true, true, true, false, false, true, false, true, true, true, false, false, false, false, false, false, false] rfl rfl (by kernel_rfl) (fun _ _ _ h => h) (Or.inl ⟨by rfl, ?_⟩) ?_ ?_
    rotate_left
    · intro w'
      go_simp
      with_reducible rfl
    rotate_left
    · simp only [Act.put, List.setIfInBounds_toArray, List.set_cons_zero, List.set_cons_succ, i64_w, i32_w]
      rfl
    refine pure_ (i := 15) (N := some 45) (v := ?_) (a' := ?_) #[false, true, false, true, true, true, false, false, true, false, true, true, true, false, false, true, false, false, false, false] rfl rfl (by kernel_rfl) (fun _ _ _ h => h) (Or.inl ⟨by rfl, ?_⟩) ?_ ?_
    rotate_left
    · intro w'
      go_simp
      with_reducible rfl
    rotate_left
    · simp only [Act.put, List.setIfInBounds_toArray, List.set_cons_zero, List.set_cons_succ, i64_w, i32_w]
      rfl
    refine pure_ (i := 16) (N := some 46) (v := ?_) (a' := ?_) #[false, true, false, true, true, true, false, false, true, false, true, true, true, false, false, true, true, false, false, false] rfl rfl (by kernel_rfl) (fun _ _ _ h => h) (Or.inl ⟨by rfl, ?_⟩) ?_ ?_
    rotate_left
    · intro w'
      go_simp
      with_reducible rfl
    rotate_left
    · simp only [Act.put, List.setIfInBounds_toArray, List.set_cons_zero, List.set_cons_succ, i64_w, i32_w]
      rfl
    refine take_ (i := 0) (N := some 30) (v := ?_) (a' := ?_) #[true, true, false, true, true, true, false, false, true, false, true, true, true, false, false, true, true, false, false, false] rfl rfl (by kernel_rfl) (fun _ _ _ h => h) (Or.inl ⟨by rfl, ?_⟩) hHeld ?_ ?_
    rotate_left
    · rintro w' ⟨s0, s1, s2, s3, s4, s5, s6, s7, s8, s9, s10, s11, s12, s13, s14, s15, s16, s17, s18, s19, s20⟩
      go_simp
      with_reducible rfl
    rotate_left
    · simp only [Act.put, List.setIfInBounds_toArray, List.set_cons_zero, List.set_cons_succ, i64_w, i32_w]
      rfl
    refine take_ (i := 2) (N := some 32) (v := ?_) (a' := ?_) #[true, true, true, true, true, true, false, false, true, false, true, true, true, false, false, true, true, false, false, false] rfl rfl (by kernel_rfl) (fun _ _ _ h => h) (Or.inl ⟨by rfl, ?_⟩) hHeld ?_ ?_
    rotate_left
    · rintro w' ⟨s0, s1, s2, s3, s4, s5, s6, s7, s8, s9, s10, s11, s12, s13, s14, s15, s16, s17, s18, s19, s20⟩
      go_simp
      with_reducible rfl
    rotate_left
    · simp only [Act.put, List.setIfInBounds_toArray, List.set_cons_zero, List.set_cons_succ, i64_w, i32_w]
      rfl
    refine pure_ (i := 6) (N := some 36) (v := ?_) (a' := ?_) #[true, true, true, true, true, true, true, false, true, false, true, true, true, false, false, true, true, false, false, false] rfl rfl (by kernel_rfl) (fun _ _ _ h => h) (Or.inl ⟨by rfl, ?_⟩) ?_ ?_
    rotate_left
    · intro w'
      go_simp
      with_reducible rfl
    rotate_left
    · simp only [Act.put, List.setIfInBounds_toArray, List.set_cons_zero, List.set_cons_succ, i64_w, i32_w]
      rfl
    refine take_ (i := 7) (N := some 37) (v := ?_) (a' := ?_) #[true, true, true, true, true, true, true, true, true, false, true, true, true, false, false, true, true, false, false, false] rfl rfl (by kernel_rfl) (fun _ _ _ h => h) (Or.inl ⟨by rfl, ?_⟩) hHeld ?_ ?_
    rotate_left
    · rintro w' ⟨s0, s1, s2, s3, s4, s5, s6, s7, s8, s9, s10, s11, s12, s13, s14, s15, s16, s17, s18, s19, s20⟩
      go_simp
      with_reducible rfl
    rotate_left
    · simp only [Act.put, List.setIfInBounds_toArray, List.set_cons_zero, List.set_cons_succ, i64_w, i32_w]
      rfl
    refine take_ (i := 9) (N := some 39) (v := ?_) (a' := ?_) #[true, true, true, true, true, true, true, true, true, true, true, true, true, false, false, true, true, false, false, false] rfl rfl (by kernel_rfl) (fun _ _ _ h => h) (Or.inl ⟨by rfl, ?_⟩) hHeld ?_ ?_
    rotate_left
    · rintro w' ⟨s0, s1, s2, s3, s4, s5, s6, s7, s8, s9, s10, s11, s12, s13, s14, s15, s16, s17, s18, s19, s20⟩
      go_simp
      with_reducible rfl
    rotate_left
    · simp only [Act.put, List.setIfInBounds_toArray, List.set_cons_zero, List.set_cons_succ, i64_w, i32_w]
      rfl
    refine pure_ (i := 13) (N := some 43) (v := ?_) (a' := ?_) #[true, true, true, true, true, true, true, true, true, true, true, true, true, true, false, true, true, false, false, false] rfl rfl (by kernel_rfl) (fun _ _ _ h => h) (Or.inl ⟨by rfl, ?_⟩) ?_ ?_
    rotate_left
    · intro w'
      go_simp
      with_reducible rfl
    rotate_left
    · simp only [Act.put, List.setIfInBounds_toArray, List.set_cons_zero, List.set_cons_succ, i64_w, i32_w]
      rfl
    refine take_ (i := 14) (N := some 44) (v := ?_) (a' := ?_) #[true, true, true, true, true, true, true, true, true, true, true, true, true, true, true, true, true, false, false, false] rfl rfl (by kernel_rfl) (fun _ _ _ h => h) (Or.inl ⟨by rfl, ?_⟩) hHeld ?_ ?_
    rotate_left
    · rintro w' ⟨s0, s1, s2, s3, s4, s5, s6, s7, s8, s9, s10, s11, s12, s13, s14, s15, s16, s17, s18, s19, s20⟩
      go_simp
      with_reducible rfl
    rotate_left
    · simp only [Act.put, List.setIfInBounds_toArray, List.set_cons_zero, List.set_cons_succ, i64_w, i32_w]
      rfl
    refine take_ (i := 17) (N := some 47) (v := ?_) (a' := ?_) #[true, true, true, true, true, true, true, true, true, true, true, true, true, true, true, true, true, true, false, false] rfl rfl (by kernel_rfl) (fun _ _ _ h => h) (Or.inl ⟨by rfl, ?_⟩) hHeld ?_ ?_
    rotate_left
    · rintro w' ⟨s0, s1, s2, s3, s4, s5, s6, s7, s8, s9, s10, s11, s12, s13, s14, s15, s16, s17, s18, s19, s20⟩
      go_simp
      with_reducible rfl
    rotate_left
    · simp only [Act.put, List.setIfInBounds_toArray, List.set_cons_zero, List.set_cons_succ, i64_w, i32_w]
      rfl
    refine last_ (i := 18) (N := some 48) #[true, true, true, true, true, true, true, true, true, true, true, true, true, true, true, true, true, true, true, false] rfl rfl (by kernel_rfl) (by decide) (fun K hK => ?_)
    refine goes_ Tryd.func85 (by kernel_rfl) rfl #[.agg #[.int .i64 R, .slice HA hn hc, .slice (some ad) rows.length rc, .map (some m)], .agg (rowA rp), .agg (rowA rq), .func (.func a) #[] #[]] (by rfl) rfl rfl (by first | (simp; done) | (simp only [List.map_toArray, List.map_cons, List.map_nil]; rfl)) ?_
    with_reducible refine (calls_some R hR HA hn hc (some ad) rows.length rc m _ _ h8p.out a al hal _).mono ?_
    rintro e w1 ⟨rfl, hb1⟩
    refine ⟨_, rfl, ?_⟩
    refine hK.out _ _ ?_
    clear hK K
    refine norm_ (a' := ?_) ?_ ?_
    rotate_left
    · show Act.put _ (some 48) _ = _
      simp only [Act.put, List.setIfInBounds_toArray, List.set_cons_zero, List.set_cons_succ, i64_w, i32_w]
      rfl
    refine pure_ (i := 19) (N := some 10) (v := ?_) (a' := ?_) #[true, true, true, true, true, true, true, true, true, true, true, true, true, true, true, true, true, true, true, true] rfl rfl (by kernel_rfl) (fun _ _ _ h => h) (Or.inl ⟨by rfl, ?_⟩) ?_ ?_
    rotate_left
    · intro w'
      go_simp
      with_reducible rfl
    rotate_left
    · simp only [Act.put, List.setIfInBounds_toArray, List.set_cons_zero, List.set_cons_succ, i64_w, i32_w]
      rfl
    refine done_ (by kernel_rfl) ?_

    have hb2 : Below W.heap.size W w1 := undrew hb1
    clear hb1 b0 b1 b2 b3 hcellW hP hQ hP0 hQ0 hcp hcq hcp0 hcq0 hcell hmn hmx hn0 hn1 hn2
    have hX0' := blk_below hX0 hb2
    have hX1' := blk_below hX1 hb2
    obtain ⟨w2, hmu, hM4, hg4⟩ := run_mapUpdate_fn 70 4 Tryd.underlying70 turnKey (hM3.below hb2) [(i : Int), (j : Int), (k : Int)] rfl (.bool (!(turnsL R rp rq al).isEmpty))
    have hmu2 : (Instr.mapUpdate 70 (.map (some m)) (.agg #[.int .i64 i, .int .i64 j, .int .i64 k]) (.bool (!(turnsL R rp rq al).isEmpty))).run Tryd.prog w1 = .ok () w2 := hmu
    clear hmu
    have b3 : w1.cell? ⟨w.heap.size, 3, none⟩ = some (.map (some m)) := blk_cell hX0' 3
    obtain ⟨t0, t1, t2⟩ : w1.cell? ⟨w.heap.size + 1, 0, none⟩ = some (.int .i64 i) ∧ w1.cell? ⟨w.heap.size + 1, 1, none⟩ = some (.int .i64 j) ∧ w1.cell? ⟨w.heap.size + 1, 2, none⟩ = some (.int .i64 k) := ⟨blk_cell hX1' 0, blk_cell hX1' 1, blk_cell hX1' 2⟩
    have HX0 := Lib.hid hX0; have HX1 := Lib.hid hX1; have HX0' := Lib.hid hX0'; have HX1' := Lib.hid hX1'
    have HM4 := Lib.hid hM4
    have HG4 := Lib.hid hg4
    have HB2 := Lib.hid hb2
    have HB0 := Lib.hid hB0
    have HSZ := Lib.hid hsz
    clear hX0 hX1 hX0' hX1' hM4 hg4 hb2 hB0 hsz hM3
    obtain ⟨bb, hbb⟩ : ∃ bb, (!(turnsL R rp rq al).isEmpty) = bb := ⟨_, rfl⟩
    rw [hbb] at hmu2 HM4 ⊢
    have HBB := Lib.hid hbb; clear hbb
    go_wp2
    go_ret
    have hsame : bb = sameB R rows i j k := by
      rw [← HBB.out, ← HRP.out, ← HRQ.out, HP.out, HQ.out, HALE.out]; rfl
    refine ⟨by rw [hsame]; rfl, ⟨_, HM4.out, ?_⟩, ?_⟩
    · intro i' j' k' v hv
      simp only [List.cons.injEq, and_true] at hv
      split at hv
      · rename_i he
        obtain ⟨e1, e2, e3⟩ := he
        have e1' : i' = i := by omega
        have e2' : j' = j := by omega
        have e3' : k' = k := by omega
        subst e1' e2' e3'
        rw [← hsame]
        exact (Option.some.inj hv).symm
      · exact HF.out i' j' k' v hv
    · exact grown_trans (grown_of_below (HB0.out.trans (HB2.out.mono (by have := HB0.out.size; omega))) _) HG4.out
end Go.Proofs.YtdllacjkacmghaaDoorD

namespace Go.Proofs.YtdllacjkacmghaaDoorD
open Go.RowKit Go.Proofs.YtdllacjkacmghaaDoorW.PrintWords Go.Proofs.YtdllacjkacmghaaDoorW.PrintLast Go.Proofs.YtdllacjkacmghaaDoorW.PrintMore Go.Proofs.YtdllacjkacmghaaDoorH
set_option linter.unusedVariables false
set_option linter.unusedSimpArgs false

theorem grown_cell {w w1 : World} {m : Nat} (hm : ∃ arr clock, w.heap[m]? = some (.map arr clock)) (hg : w.grownBy w1 (some m)) {a : Addr} {v : Value} (h : w.cell? a = some v) : w1.cell? a = some v := by
  obtain ⟨arr, clock, h0⟩ := hm
  have hlt := World.block_lt_of_cell? w a h
  have hne : a.block ≠ m := fun e => by
    have h1 := h
    unfold World.cell? at h1
    rw [e, h0] at h1
    simp at h1
  have h2 := hg.block a.block hlt (by simpa using hne)
  unfold World.cell? at h ⊢
  rw [h2]; exact h
theorem isMap {n : Nat} {w : World} {m : Nat} {f : List Int → Option Value} (h : MapFn n w m f) : ∃ arr clock, w.heap[m]? = some (.map arr clock) := by
  obtain ⟨arr, clock, h1, _⟩ := h; exact ⟨arr, clock, h1⟩
theorem Glob.grown {w w1 : World} {m : Nat} (h : Glob w) (hm : ∃ arr clock, w.heap[m]? = some (.map arr clock)) (hg : w.grownBy w1 (some m)) : Glob w1 :=
  ⟨grown_cell hm hg h.can, grown_cell hm hg h.sure, grown_cell hm hg h.never0, grown_cell hm hg h.never1, grown_cell hm hg h.never2⟩
theorem kRow_grown {w w1 : World} {m : Nat} {A : Option Addr} {n : Nat} {l : List (List Int)} (h : kRow.C w A n l) (hm : ∃ arr clock, w.heap[m]? = some (.map arr clock)) (hg : w.grownBy w1 (some m)) : kRow.C w1 A n l := by
  obtain ⟨hl, hc, hd⟩ := h
  refine ⟨hl, hc, fun h0 => ?_⟩
  obtain ⟨ad, e, h1⟩ := hd h0
  refine ⟨ad, e, fun j x hx => ?_⟩
  obtain ⟨c, h2, h3, h4⟩ := h1 j x hx
  exact ⟨c, h2, h3, fun i u hi => grown_cell hm hg (h4 i u hi)⟩
theorem blk_grownM {w w1 : World} {m g : Nat} {cs : Array Value} {t : TypeId} {fr : Nat × Nat} (h : w.heap[g]? = some (.cells cs t fr)) (hm : ∃ arr clock, w.heap[m]? = some (.map arr clock)) (hg : w.grownBy w1 (some m)) : w1.heap[g]? = some (.cells cs t fr) := by
  obtain ⟨arr, clock, h0⟩ := hm
  refine (hg.block g (blk_lt h) (fun e => ?_)).trans h
  cases e
  rw [h] at h0
  cases h0

/-- A BOOK IN THE CALCULATION, as far as it is in the world. -/
structure Bk (R : Nat) (RA : Option Addr) (m : Nat) (rows : List (List Int)) (w : World) : Prop where
  glob : Glob w
  row : kRow.C w RA rows.length rows
  map : ∃ f, MapFn 3 w m f ∧ Memo R rows f
theorem Bk.is {R : Nat} {RA : Option Addr} {m : Nat} {rows : List (List Int)} {w : World} (h : Bk R RA m rows w) : ∃ arr clock, w.heap[m]? = some (.map arr clock) := by
  obtain ⟨_, _, f, h1, _⟩ := h; exact isMap h1
theorem Bk.below {R : Nat} {RA : Option Addr} {m : Nat} {rows : List (List Int)} {w w1 : World} (h : Bk R RA m rows w) (hb : Below w.heap.size w w1) : Bk R RA m rows w1 := by
  obtain ⟨h1, h2, f, h3, h4⟩ := h; exact ⟨h1.below hb, Kd.C_below h2 hb, f, h3.below hb, h4⟩
theorem Bk.alloc {R : Nat} {RA : Option Addr} {m : Nat} {rows : List (List Int)} {w : World} (h : Bk R RA m rows w) (o : Obj) : Bk R RA m rows (w.alloc o) := h.below (below_alloc (Below.refl _ _) o)
theorem Bk.drew {R : Nat} {RA : Option Addr} {m : Nat} {rows : List (List Int)} {w : World} (h : Bk R RA m rows w) : Bk R RA m rows w.drew := h.below (Below.refl _ w).drew

theorem calls_same' (R : Nat) (hR : R ≤ 8) (HA : Option Addr) (hn hc : Nat) (RA : Option Addr) (rc m : Nat) (rows : List (List Int)) (i j k : Nat) (hi : i < rows.length) (hj : j < rows.length) (hk : k < 2) (w : World)
    (hB : Bk R RA m rows w) (hrc : rows.length ≤ rc) (h8 : Rows8 rows) :
    Calls Tryd.prog 64 #[.agg #[.int .i64 R, .slice HA hn hc, .slice RA rows.length rc, .map (some m)], .int .i64 i, .int .i64 j, .int .i64 k] w fun e w' =>
      e = .returned (.bool (sameB R rows i j k)) ∧ Bk R RA m rows w' ∧ w.grownBy w' (some m) := by
  obtain ⟨h1, h2, f, h3, h4⟩ := hB
  refine (calls_same R hR HA hn hc RA rc m rows f i j k hi hj hk w h1 h2 hrc h8 h3 h4).mono ?_
  rintro e w' ⟨rfl, hf, hg⟩
  exact ⟨rfl, ⟨h1.grown (isMap h3) hg, kRow_grown h2 (isMap h3) hg, hf⟩, hg⟩

/-- how many pairs can be the same -/
def cntIn (R : Nat) (rows : List (List Int)) (k i : Nat) : Nat := (List.range i).countP fun i => sameB R rows i k 0
def cntTo (R : Nat) (rows : List (List Int)) : Nat → Nat
  | 0 => 0
  | k + 1 => cntTo R rows k + cntIn R rows k k
def pairsB (R : Nat) (rows : List (List Int)) : Nat := cntTo R rows rows.length
theorem cntIn_le (R : Nat) (rows : List (List Int)) (k i : Nat) : cntIn R rows k i ≤ i := by
  have := List.countP_le_length (p := fun i => sameB R rows i k 0) (l := List.range i)
  rwa [List.length_range] at this
theorem cntIn_succ (R : Nat) (rows : List (List Int)) (k i : Nat) : cntIn R rows k (i + 1) = cntIn R rows k i + (if sameB R rows i k 0 then 1 else 0) := by
  unfold cntIn
  rw [List.range_succ, List.countP_append]
  simp [List.countP_cons]
theorem cntTo_le (R : Nat) (rows : List (List Int)) (k : Nat) : cntTo R rows k ≤ k * k := by
  induction k with
  | zero => exact Nat.le_refl _
  | succ k ih => have := cntIn_le R rows k k; simp only [cntTo, Nat.succ_mul, Nat.mul_succ]; omega

set_option maxRecDepth 100000 in
set_option maxHeartbeats 1000000 in
theorem calls_pairs (R : Nat) (hR : R ≤ 8) (HA : Option Addr) (hn hc : Nat) (RA : Option Addr) (rc m : Nat) (rows : List (List Int)) (h6 : rows.length ≤ 6) (w : World)
    (hB : Bk R RA m rows w) (hrc : rows.length ≤ rc) (h8 : Rows8 rows) :
    Calls Tryd.prog 76 #[.agg #[.int .i64 R, .slice HA hn hc, .slice RA rows.length rc, .map (some m)]] w fun e w' =>
      e = .returned (.int .i64 (pairsB R rows : Nat)) ∧ w.grownBy w' (some m) := by
  go_enter Tryd.func76, Tryd.ntmps76
  go_wp2_with fail
  have hX := blk_new w (.cells #[.int .i64 R, .slice HA hn hc, .slice RA rows.length rc, .map (some m)] 72)
  have hB0 := hB.alloc (.cells #[.int .i64 R, .slice HA hn hc, .slice RA rows.length rc, .map (some m)] 72)
  have hg0 : w.grownBy (w.alloc (.cells #[.int .i64 R, .slice HA hn hc, .slice RA rows.length rc, .map (some m)] 72)) (some m) := grown_of_below (below_alloc (Below.refl _ _) _) _
  have HX := Lib.hid hX; have HB := Lib.hid hB0; have HG := Lib.hid hg0; have H8 := Lib.hid h8
  clear hX hB0 hg0 hB h8
  go_loopw [3, 9] (fun v u wr => ∃ k : Nat, k ≤ rows.length ∧ v = .int .i64 (cntTo R rows k : Nat) ∧ u = .int .i64 k ∧ Hid (wr.heap[w.heap.size]? = some (.cells #[.int .i64 R, .slice HA hn hc, .slice RA rows.length rc, .map (some m)] 72 (0, 0))) ∧ Hid (Bk R RA m rows wr) ∧ Hid (w.grownBy wr (some m))) (fun _ u _ => rows.length - (intOf u).toNat)
  case atStart => exact ⟨0, Nat.zero_le _, rfl, rfl, HX, HB, HG⟩
  case round =>
    clear HX HB HG
    obtain ⟨k, hk, rfl, rfl, HX, HB, HG⟩ := hrel
    by_cases hlt : k < rows.length
    · obtain ⟨wo, rfl⟩ : ∃ wo : World, wo = wr := ⟨_, rfl⟩
      go_wp2_with fail
      have hto := cntTo_le R rows k
      have hto6 : cntTo R rows k ≤ 36 := Nat.le_trans hto (Nat.mul_le_mul (by omega : k ≤ 6) (by omega : k ≤ 6))
      go_loopw [3, 13] (fun v u wi => ∃ i : Nat, i ≤ k ∧ v = .int .i64 (cntTo R rows k + cntIn R rows k i : Nat) ∧ u = .int .i64 i ∧ Hid (wi.heap[w.heap.size]? = some (.cells #[.int .i64 R, .slice HA hn hc, .slice RA rows.length rc, .map (some m)] 72 (0, 0))) ∧ Hid (Bk R RA m rows wi) ∧ Hid (w.grownBy wi (some m))) (fun _ u _ => k - (intOf u).toNat)
      case atStart => exact ⟨0, Nat.zero_le _, by simp [cntIn], rfl, HX, HB, HG⟩
      case round =>
        clear HX HB HG
        obtain ⟨i, hi, rfl, rfl, HX, HB, HG⟩ := hrel
        by_cases hlti : i < k
        · have hin := cntIn_le R rows k i
          have c0 : wr.cell? ⟨w.heap.size, 0, none⟩ = some (.int .i64 R) := blk_cell HX.out 0
          have c1 : wr.cell? ⟨w.heap.size, 1, none⟩ = some (.slice HA hn hc) := blk_cell HX.out 1
          have c2 : wr.cell? ⟨w.heap.size, 2, none⟩ = some (.slice RA rows.length rc) := blk_cell HX.out 2
          have c3 : wr.cell? ⟨w.heap.size, 3, none⟩ = some (.map (some m)) := blk_cell HX.out 3
          have hs := cntIn_succ R rows k i
          by_cases hsb : sameB R rows i k 0 = true
          · go_wp2_with (go_at_call 64; refine (calls_same' R hR HA hn hc RA rc m rows i k 0 (by omega) hlt (by omega) _ HB.out hrc H8.out).mono ?_; rintro e w1 ⟨he, hb1, hg1⟩; rw [hsb] at he; subst he)
            have HX1 := Lib.hid (blk_grownM HX.out HB.out.is hg1)
            have HB1 := Lib.hid hb1
            have HG1 := Lib.hid (grown_trans HG.out hg1)
            clear hb1 hg1 c0 c1 c2 c3
            rw [hsb] at hs
            simp only [if_true] at hs
            go_roundw
            case rel => exact ⟨i + 1, by omega, by rw [hs]; go_num, by go_num, HX1, HB1, HG1⟩
            case measure => simp [intOf]; omega
          · have hsb : sameB R rows i k 0 = false := by simpa using hsb
            go_wp2_with (go_at_call 64; refine (calls_same' R hR HA hn hc RA rc m rows i k 0 (by omega) hlt (by omega) _ HB.out hrc H8.out).mono ?_; rintro e w1 ⟨he, hb1, hg1⟩; rw [hsb] at he; subst he)
            have HX1 := Lib.hid (blk_grownM HX.out HB.out.is hg1)
            have HB1 := Lib.hid hb1
            have HG1 := Lib.hid (grown_trans HG.out hg1)
            clear hb1 hg1 c0 c1 c2 c3
            rw [hsb] at hs
            simp only [Bool.false_eq_true, if_false, Nat.add_zero] at hs
            go_roundw
            case rel => exact ⟨i + 1, by omega, by rw [hs]; first | rfl | go_num, by go_num, HX1, HB1, HG1⟩
            case measure => simp [intOf]; omega
        · obtain rfl : i = k := by omega
          go_wp2
          go_roundw
          case rel => exact ⟨i + 1, by omega, rfl, by go_num, HX, HB, HG⟩
          case measure => simp [intOf]; omega
    · obtain rfl : k = rows.length := by omega
      go_wp2
      go_ret
      exact ⟨rfl, HG.out⟩
end Go.Proofs.YtdllacjkacmghaaDoorD
