/- The walks of package dapple: all turns of a pair. The walks of package dapple: whose a row can be. -/
import Derived.Test.YtdllacjkacmghaaDoorGd
import Derived.Test.YtdllacjkacmghaaDoorHb
namespace Go.Proofs.YtdllacjkacmghaaDoorD
open Go.RowKit Go.Proofs.YtdllacjkacmghaaDoorW.PrintWords Go.Proofs.YtdllacjkacmghaaDoorW.PrintLast Go.Proofs.YtdllacjkacmghaaDoorW.PrintMore Go.Proofs.YtdllacjkacmghaaDoorH
set_option linter.unusedVariables false
set_option linter.unusedSimpArgs false
attribute [local go_sem] Oper.semAt_some

theorem TurnBox.turn {A B : World} {g : Nat} {R : Int} {HA : Option Addr} {hn hc : Nat} {RA : Option Addr} {rn rc m : Nat} {r s : List Int} {a : Nat} {row : Option Nat} {b : Nat} (h : TurnBox A g R HA hn hc RA rn rc m r s a) (hg : A.grownBy B row) (hr : ∀ r, row = some r → b ≤ r ∧ ∃ o : Obj, A.heap[r]? = some o ∧ o.isCells = false) : TurnBox B g R HA hn hc RA rn rc m r s a :=
  ⟨turn_cells h.book hg hr, turn_cells h.one hg hr, turn_cells h.other hg hr, turn_cells h.alike hg hr⟩
theorem TurnBox.appended {W w1 : World} {g : Nat} {R : Int} {HA : Option Addr} {hn hc : Nat} {RA : Option Addr} {rn rc m : Nat} {r s : List Int} {a : Nat} {base n b : Nat} {v u : Value} {xs : List Value} {o : Obj} (h : TurnBox W g R HA hn hc RA rn rc m r s a) (hrow : W.ownsRow base 3 1 v n xs) (hg : (W.alloc o).grownBy w1 v.ownBlock) (hb : b < g) :
    KeepG g W (w1.setCell ⟨b, 0, none⟩ u) := fun k h1 h2 => by
  obtain rfl | rfl | rfl | rfl : k = g ∨ k = g + 1 ∨ k = g + 2 ∨ k = g + 3 := by omega
  · exact keep_appended (fr := (0, 0)) h.book hrow (by decide) hg (by omega)
  · exact keep_appended (fr := (0, 0)) h.one hrow (by decide) hg (by omega)
  · exact keep_appended (fr := (0, 0)) h.other hrow (by decide) hg (by omega)
  · exact keep_appended (fr := (0, 0)) h.alike hrow (by decide) hg (by omega)

def ints (l : List Nat) : List Int := l.map Int.ofNat
def turnsD (R : Int) (l : List (List Int)) (one other : Int) : List Int × Int :=
  if askedD R l one other = 0 then (ints (turnsL R.toNat (l.getD one.toNat []) (l.getD other.toNat []) canB), 0) else ([], askedD R l one other)

theorem infoInt : (Tryd.prog.info? 3).map (fun i => (i.zero, i.size, i.bytes)) = some (some (.int .i64 0), 1, 8) := by kernel_rfl

set_option maxRecDepth 100000 in
set_option maxHeartbeats 1000000 in
theorem calls_Turns (R : Int) (A : Option Addr) (c : Nat) (l : List (List Int)) (one other : Int) (w : World) (hr : Kd.C (Kd.slice 3 (Kd.int .i64)) w A l.length l) (hc : l.length ≤ c) (hG : Glob w) :
    Calls Tryd.prog 17 #[.agg #[.int .i64 R, .slice A l.length c], .int .i64 one, .int .i64 other] w fun e w' =>
      ∃ v, e = .returned (.tuple #[v, .int .i64 (turnsD R l one other).2]) ∧ Kd.V (Kd.int .i64) 3 w' w.heap.size (fun k => w.heap.size ≤ k) v (turnsD R l one other).1 ∧ Below w.heap.size w w' := by
  have HR := Lib.hid hr; clear hr
  have HG := Lib.hid hG; clear hG
  have hb0 : Below w.heap.size w (w.alloc (.cells #[.int .i64 R, .slice A l.length c] 24)) := below_alloc (Below.refl _ _) _
  have hbool : askedD R l one other = 0 ∨ askedD R l one other ≠ 0 := Decidable.em _
  rcases hbool with h0 | h0
  · refine (callsIn_wide (n := 3)).1 ?_
    refine callsIn_of_wp_marks Tryd.func17 rfl trivial ?_
    simp only [Tryd.ntmps17, List.size_toArray, List.length_cons, List.length_nil, Nat.reduceAdd, Nat.reduceSub, Array.replicate_succ, Array.replicate_zero, List.push_toArray, List.append_toArray, List.nil_append, List.cons_append]
    gi_wp2_with (refine ⟨trivial, ?_⟩; gi_at_call 59; refine (callsIn_wide.2 (calls_asked R A c l one other _ (Kd.C_below HR.out hb0) hc (HG.out.below hb0))).mono ?_; rintro e w1 ⟨hb1, ⟨_, hV, h1, h2, RA, rc, m, rfl, hBk, hrc, hm⟩ | ⟨hne, _⟩⟩; rotate_left; exact absurd h0 hne)
    obtain ⟨n, rfl, hn8, hn1⟩ := hV.nat
    obtain ⟨i, rfl, hi⟩ := horseB_nat h1
    obtain ⟨j, rfl, hj⟩ := horseB_nat h2
    have hn0 : ((n : Int)).toNat = n := by simp
    have hi0 : ((i : Int)).toNat = i := by simp
    have hj0 : ((j : Int)).toNat = j := by simp
    have htd : turnsD (n : Int) l i j = (ints (turnsL n (l.getD i []) (l.getD j []) canB), (0 : Int)) := by simp [turnsD, h0]
    rw [hn0] at hBk
    have hB2 : Below w.heap.size w w1 := hb0.trans (hb1.mono (by simp))
    have hsz : w.heap.size ≤ w1.heap.size := below_size hB2
    generalize hWdef : ((w1.alloc (.cells #[.int .i64 n, .slice A l.length c, .slice RA l.length rc, .map (some m)] 72)).alloc (.cells #[.slice none 0 0] 26)) = W
    have hb2 : Below w1.heap.size w1 W := by rw [← hWdef]; exact below_alloc (below_alloc (Below.refl _ _) _) _
    have hBW : Below w.heap.size w W := hB2.trans (hb2.mono hsz)
    have hX : W.heap[w1.heap.size]? = some (.cells #[.int .i64 n, .slice A l.length c, .slice RA l.length rc, .map (some m)] 72 (0, 0)) := by rw [← hWdef]; exact blk_alloc (blk_new w1 _) _
    have hO : W.heap[w1.heap.size + 1]? = some (.cells #[.slice none 0 0] 26 (0, 0)) := by
      rw [← hWdef]
      have := blk_new (w1.alloc (.cells #[.int .i64 n, .slice A l.length c, .slice RA l.length rc, .map (some m)] 72)) (.cells #[.slice none 0 0] 26)
      rwa [World.size_alloc] at this
    have hWs : W.heap.size = w1.heap.size + 2 := by rw [← hWdef]; simp
    clear hWdef
    obtain ⟨ad, hA, hcp0, hcp⟩ := at_rowC (Kd.C_below hBk.row hb2) i hi
    obtain ⟨ad', hA', hcq0, hcq⟩ := at_rowC (Kd.C_below hBk.row hb2) j hj
    obtain rfl : ad = ad' := Option.some.inj (hA.symm.trans hA')
    subst hA
    have hcell := pw_cell_below hb2 hBk.glob.can
    obtain ⟨ri, hri⟩ : ∃ ri, l.getD i [] = ri := ⟨_, rfl⟩
    obtain ⟨rj, hrj⟩ : ∃ rj, l.getD j [] = rj := ⟨_, rfl⟩
    rw [hri] at hcp0 hcp htd
    rw [hrj] at hcq0 hcq htd
    have HTD := Lib.hid htd; clear htd
    have HX := Lib.hid hX; have HO := Lib.hid hO; have HBW := Lib.hid hBW; have HWS := Lib.hid hWs
    obtain ⟨b0, b1, b2, b3⟩ : W.cell? ⟨w1.heap.size, 0, none⟩ = some (.int .i64 n) ∧ W.cell? ⟨w1.heap.size, 1, none⟩ = some (.slice A l.length c) ∧ W.cell? ⟨w1.heap.size, 2, none⟩ = some (.slice (some ad) l.length rc) ∧ W.cell? ⟨w1.heap.size, 3, none⟩ = some (.map (some m)) := ⟨blk_cell hX 0, blk_cell hX 1, blk_cell hX 2, blk_cell hX 3⟩
    clear hBk hB2 hb1 hb2 hBW hX hO hWs hb0 h1 h2
    have hi2 : (i : Int) < (l.length : Int) := by omega
    have hj2 : (j : Int) < (l.length : Int) := by omega
    refine wpIn_wide.2 (wp_region_noPanic ?_)
    refine start_ (n := 14) (S := fun w' => w'.cell? ⟨w1.heap.size, 0, none⟩ = some (.int .i64 n) ∧ w'.cell? ⟨w1.heap.size, 1, none⟩ = some (.slice A l.length c) ∧ w'.cell? ⟨w1.heap.size, 2, none⟩ = some (.slice (some ad) l.length rc) ∧ w'.cell? ⟨w1.heap.size, 3, none⟩ = some (.map (some m)) ∧ w'.cell? ⟨0, 0, none⟩ = some (.func (.func 110) #[] #[]) ∧ w'.cell? (ad.add (i * 8)) = some (.int .i64 (el ri 0)) ∧ w'.cell? ⟨(ad.add (i * 8)).block, (ad.add (i * 8)).off + 1, none⟩ = some (.int .i64 (el ri 1)) ∧ w'.cell? ⟨(ad.add (i * 8)).block, (ad.add (i * 8)).off + 2, none⟩ = some (.int .i64 (el ri 2)) ∧ w'.cell? ⟨(ad.add (i * 8)).block, (ad.add (i * 8)).off + 3, none⟩ = some (.int .i64 (el ri 3)) ∧ w'.cell? ⟨(ad.add (i * 8)).block, (ad.add (i * 8)).off + 4, none⟩ = some (.int .i64 (el ri 4)) ∧ w'.cell? ⟨(ad.add (i * 8)).block, (ad.add (i * 8)).off + 5, none⟩ = some (.int .i64 (el ri 5)) ∧ w'.cell? ⟨(ad.add (i * 8)).block, (ad.add (i * 8)).off + 6, none⟩ = some (.int .i64 (el ri 6)) ∧ w'.cell? ⟨(ad.add (i * 8)).block, (ad.add (i * 8)).off + 7, none⟩ = some (.int .i64 (el ri 7)) ∧ w'.cell? (ad.add (j * 8)) = some (.int .i64 (el rj 0)) ∧ w'.cell? ⟨(ad.add (j * 8)).block, (ad.add (j * 8)).off + 1, none⟩ = some (.int .i64 (el rj 1)) ∧ w'.cell? ⟨(ad.add (j * 8)).block, (ad.add (j * 8)).off + 2, none⟩ = some (.int .i64 (el rj 2)) ∧ w'.cell? ⟨(ad.add (j * 8)).block, (ad.add (j * 8)).off + 3, none⟩ = some (.int .i64 (el rj 3)) ∧ w'.cell? ⟨(ad.add (j * 8)).block, (ad.add (j * 8)).off + 4, none⟩ = some (.int .i64 (el rj 4)) ∧ w'.cell? ⟨(ad.add (j * 8)).block, (ad.add (j * 8)).off + 5, none⟩ = some (.int .i64 (el rj 5)) ∧ w'.cell? ⟨(ad.add (j * 8)).block, (ad.add (j * 8)).off + 6, none⟩ = some (.int .i64 (el rj 6)) ∧ w'.cell? ⟨(ad.add (j * 8)).block, (ad.add (j * 8)).off + 7, none⟩ = some (.int .i64 (el rj 7))) (ds := [13]) #[false, false, false, false, false, false, false, false, false, false, false, false, false, false] (by kernel_rfl) rfl rfl ⟨b0, b1, b2, b3, hcell, hcp0, (hcp 1 (by omega) (by omega)), (hcp 2 (by omega) (by omega)), (hcp 3 (by omega) (by omega)), (hcp 4 (by omega) (by omega)), (hcp 5 (by omega) (by omega)), (hcp 6 (by omega) (by omega)), (hcp 7 (by omega) (by omega)), hcq0, (hcq 1 (by omega) (by omega)), (hcq 2 (by omega) (by omega)), (hcq 3 (by omega) (by omega)), (hcq 4 (by omega) (by omega)), (hcq 5 (by omega) (by omega)), (hcq 6 (by omega) (by omega)), (hcq 7 (by omega) (by omega))⟩ (fun hHeld => ?_)
    refine pure_ (i := 1) (N := some 23) (v := ?_) (a' := ?_) #[false, true, false, false, false, false, false, false, false, false, false, false, false, false] rfl rfl (by kernel_rfl) (fun _ _ _ h => h) (Or.inl ⟨by rfl, ?_⟩) ?_ ?_
    rotate_left
    · intro w'
      go_simp
      with_reducible rfl
    rotate_left
    · simp only [Act.put, List.setIfInBounds_toArray, List.set_cons_zero, List.set_cons_succ, i64_w, i32_w]
      rfl
    refine pure_ (i := 3) (N := some 25) (v := ?_) (a' := ?_) #[false, true, false, true, false, false, false, false, false, false, false, false, false, false] rfl rfl (by kernel_rfl) (fun _ _ _ h => h) (Or.inl ⟨by rfl, ?_⟩) ?_ ?_
    rotate_left
    · intro w'
      go_simp
      with_reducible rfl
    rotate_left
    · simp only [Act.put, List.setIfInBounds_toArray, List.set_cons_zero, List.set_cons_succ, i64_w, i32_w]
      rfl
    refine pure_ (i := 6) (N := some 28) (v := ?_) (a' := ?_) #[false, true, false, true, false, false, true, false, false, false, false, false, false, false] rfl rfl (by kernel_rfl) (fun _ _ _ h => h) (Or.inl ⟨by rfl, ?_⟩) ?_ ?_
    rotate_left
    · intro w'
      go_simp
      with_reducible rfl
    rotate_left
    · simp only [Act.put, List.setIfInBounds_toArray, List.set_cons_zero, List.set_cons_succ, i64_w, i32_w]
      rfl
    refine pure_ (i := 8) (N := some 30) (v := ?_) (a' := ?_) #[false, true, false, true, false, false, true, false, true, false, false, false, false, false] rfl rfl (by kernel_rfl) (fun _ _ _ h => h) (Or.inl ⟨by rfl, ?_⟩) ?_ ?_
    rotate_left
    · intro w'
      go_simp
      with_reducible rfl
    rotate_left
    · simp only [Act.put, List.setIfInBounds_toArray, List.set_cons_zero, List.set_cons_succ, i64_w, i32_w]
      rfl
    refine pure_ (i := 11) (N := some 33) (v := ?_) (a' := ?_) #[false, true, false, true, false, false, true, false, true, false, false, true, false, false] rfl rfl (by kernel_rfl) (fun _ _ _ h => h) (Or.inl ⟨by rfl, ?_⟩) ?_ ?_
    rotate_left
    · intro w'
      go_simp
      with_reducible rfl
    rotate_left
    · simp only [Act.put, List.setIfInBounds_toArray, List.set_cons_zero, List.set_cons_succ, i64_w, i32_w]
      rfl
    refine take_ (i := 0) (N := some 22) (v := ?_) (a' := ?_) #[true, true, false, true, false, false, true, false, true, false, false, true, false, false] rfl rfl (by kernel_rfl) (fun _ _ _ h => h) (Or.inl ⟨by rfl, ?_⟩) hHeld ?_ ?_
    rotate_left
    · rintro w' ⟨s0, s1, s2, s3, s4, s5, s6, s7, s8, s9, s10, s11, s12, s13, s14, s15, s16, s17, s18, s19, s20⟩
      go_simp
      with_reducible rfl
    rotate_left
    · simp only [Act.put, List.setIfInBounds_toArray, List.set_cons_zero, List.set_cons_succ, i64_w, i32_w]
      rfl
    refine take_ (i := 2) (N := some 24) (v := ?_) (a' := ?_) #[true, true, true, true, false, false, true, false, true, false, false, true, false, false] rfl rfl (by kernel_rfl) (fun _ _ _ h => h) (Or.inl ⟨by rfl, ?_⟩) hHeld ?_ ?_
    rotate_left
    · rintro w' ⟨s0, s1, s2, s3, s4, s5, s6, s7, s8, s9, s10, s11, s12, s13, s14, s15, s16, s17, s18, s19, s20⟩
      go_simp
      with_reducible rfl
    rotate_left
    · simp only [Act.put, List.setIfInBounds_toArray, List.set_cons_zero, List.set_cons_succ, i64_w, i32_w]
      rfl
    refine pure_ (i := 4) (N := some 26) (v := ?_) (a' := ?_) #[true, true, true, true, true, false, true, false, true, false, false, true, false, false] rfl rfl (by kernel_rfl) (fun _ _ _ h => h) (Or.inl ⟨by rfl, ?_⟩) ?_ ?_
    rotate_left
    · intro w'
      go_simp
      with_reducible rfl
    rotate_left
    · simp only [Act.put, List.setIfInBounds_toArray, List.set_cons_zero, List.set_cons_succ, i64_w, i32_w]
      rfl
    refine take_ (i := 5) (N := some 27) (v := ?_) (a' := ?_) #[true, true, true, true, true, true, true, false, true, false, false, true, false, false] rfl rfl (by kernel_rfl) (fun _ _ _ h => h) (Or.inl ⟨by rfl, ?_⟩) hHeld ?_ ?_
    rotate_left
    · rintro w' ⟨s0, s1, s2, s3, s4, s5, s6, s7, s8, s9, s10, s11, s12, s13, s14, s15, s16, s17, s18, s19, s20⟩
      go_simp
      with_reducible rfl
    rotate_left
    · simp only [Act.put, List.setIfInBounds_toArray, List.set_cons_zero, List.set_cons_succ, i64_w, i32_w]
      rfl
    refine take_ (i := 7) (N := some 29) (v := ?_) (a' := ?_) #[true, true, true, true, true, true, true, true, true, false, false, true, false, false] rfl rfl (by kernel_rfl) (fun _ _ _ h => h) (Or.inl ⟨by rfl, ?_⟩) hHeld ?_ ?_
    rotate_left
    · rintro w' ⟨s0, s1, s2, s3, s4, s5, s6, s7, s8, s9, s10, s11, s12, s13, s14, s15, s16, s17, s18, s19, s20⟩
      go_simp
      with_reducible rfl
    rotate_left
    · simp only [Act.put, List.setIfInBounds_toArray, List.set_cons_zero, List.set_cons_succ, i64_w, i32_w]
      rfl
    refine pure_ (i := 9) (N := some 31) (v := ?_) (a' := ?_) #[true, true, true, true, true, true, true, true, true, true, false, true, false, false] rfl rfl (by kernel_rfl) (fun _ _ _ h => h) (Or.inl ⟨by rfl, ?_⟩) ?_ ?_
    rotate_left
    · intro w'
      go_simp
      with_reducible rfl
    rotate_left
    · simp only [Act.put, List.setIfInBounds_toArray, List.set_cons_zero, List.set_cons_succ, i64_w, i32_w]
      rfl
    refine take_ (i := 10) (N := some 32) (v := ?_) (a' := ?_) #[true, true, true, true, true, true, true, true, true, true, true, true, false, false] rfl rfl (by kernel_rfl) (fun _ _ _ h => h) (Or.inl ⟨by rfl, ?_⟩) hHeld ?_ ?_
    rotate_left
    · rintro w' ⟨s0, s1, s2, s3, s4, s5, s6, s7, s8, s9, s10, s11, s12, s13, s14, s15, s16, s17, s18, s19, s20⟩
      go_simp
      with_reducible rfl
    rotate_left
    · simp only [Act.put, List.setIfInBounds_toArray, List.set_cons_zero, List.set_cons_succ, i64_w, i32_w]
      rfl
    refine take_ (i := 12) (N := some 34) (v := ?_) (a' := ?_) #[true, true, true, true, true, true, true, true, true, true, true, true, true, false] rfl rfl (by kernel_rfl) (fun _ _ _ h => h) (Or.inl ⟨by rfl, ?_⟩) hHeld ?_ ?_
    rotate_left
    · rintro w' ⟨s0, s1, s2, s3, s4, s5, s6, s7, s8, s9, s10, s11, s12, s13, s14, s15, s16, s17, s18, s19, s20⟩
      go_simp
      with_reducible rfl
    rotate_left
    · simp only [Act.put, List.setIfInBounds_toArray, List.set_cons_zero, List.set_cons_succ, i64_w, i32_w]
      rfl
    refine last_ (i := 13) (N := some 35) #[true, true, true, true, true, true, true, true, true, true, true, true, true, true] rfl rfl (by kernel_rfl) (by decide) (fun K hK => ?_)
    refine goes_ Tryd.func60 (by kernel_rfl) rfl #[.agg #[.int .i64 n, .slice A l.length c, .slice (some ad) l.length rc, .map (some m)], .agg (rowA ri), .agg (rowA rj), .func (.func 110) #[] #[]] (by rfl) rfl rfl (by first | (simp; done) | (simp only [List.map_toArray, List.map_cons, List.map_nil]; rfl)) ?_
    with_reducible refine (calls_turns n A l.length c (some ad) l.length rc m ri rj 110 _).mono ?_
    rintro e w2 ⟨rfl, hT, hb3, hs3⟩
    refine ⟨_, rfl, ?_⟩
    refine hK.out _ _ ?_
    clear hK K
    refine norm_ (a' := ?_) ?_ ?_
    rotate_left
    · show Act.put _ (some 35) _ = _
      simp only [Act.put, List.setIfInBounds_toArray, List.set_cons_zero, List.set_cons_succ, i64_w, i32_w]
      rfl
    refine done_ (by kernel_rfl) ?_

    refine NoPanic.normal ?_
    obtain ⟨i0, hinf, hz0, hz1, hz2⟩ := info_parts infoInt
    have hb3' : Below W.heap.size W w2 := undrew hb3
    have hTb : TurnBox w2 W.heap.size n A l.length c (some ad) l.length rc m ri rj 110 := hT
    have HS3 := Lib.hid (show w2.heap.size = W.heap.size + 4 from hs3)
    have hB2 : Below w.heap.size w w2 := HBW.out.trans (hb3'.mono (below_size HBW.out))
    have hO2 := blk_below HO.out hb3'
    have hlt2 : w1.heap.size + 1 < w2.heap.size := blk_lt hO2
    clear b0 b1 b2 b3 hcp hcq hcp0 hcq0 hcell hT hb3 hs3
    gi_wp2_with fail
    refine rangeFunc_var (n := 3) (by omega) (gf := 82) (s := 11) (enc := fun x : Nat => .int .i64 x) (lb := #[.pointer (some ⟨W.heap.size, 0, none⟩), .pointer (some ⟨W.heap.size + 3, 0, none⟩), .pointer (some ⟨W.heap.size + 1, 0, none⟩), .pointer (some ⟨W.heap.size + 2, 0, none⟩)]) rfl (enters_of Tryd.func82 (by kernel_rfl) rfl)
      (turns_stops 2 W.heap.size n hn8 A l.length c (some ad) l.length rc m ri rj 110 canB alike_can w2 (by have := HS3.out; omega) hTb) (KeepG.keeps (by have := HS3.out; omega))
      (fun pre W' => (∃ v, Boxed W' (w1.heap.size + 1) 26 v ∧ W'.ownsRow w.heap.size 3 1 v pre.length ((ints pre).map (Value.int .i64)) ∧ True) ∧ Below w.heap.size w W' ∧ TurnBox W' W.heap.size n A l.length c (some ad) l.length rc m ri rj 110)
      (fun _ _ _ => False)
      (OwnFrom.and (Own.from (holdsRow_own w.heap.size (w1.heap.size + 1) 26 3 1 (fun pre : List Nat => pre.length) (fun pre => (ints pre).map (Value.int .i64)) (fun _ _ => True)) _) (OwnFrom.and (ownFrom_below (Nat.le_refl _) (below_size hB2)) (fun _ _ _ _ hs hg hr => TurnBox.turn hs hg hr)))
      (fun _ _ _ _ _ hs _ _ => hs)
      ⟨⟨_, hO2, World.ownsRow_nil _ _ _ _, trivial⟩, hB2, hTb⟩ ?assign ?body ?done ?stop
    case assign =>
      intro l' x W' K hK
      simp only [List.setIfInBounds_toArray, List.set_cons_succ, List.set_cons_zero] at hK ⊢
      gi_wp2
      exact hK
    case body =>
      rintro l' pre x W' ⟨⟨v, hv, hrow, _⟩, hB, hTw⟩ hlt
      have hc := hv.cell
      simp only [List.setIfInBounds_toArray, List.set_cons_succ, List.set_cons_zero]
      gi_wp2_with (gi_at_builtin; refine wpListIn_append_own _ rfl _ _ 26 rfl w.heap.size 3 i0 (.int .i64 0) 1 8 Tryd.underlying26 hinf hz0 hz1 hz2 rfl (by decide) _ _ _ rfl (hrow.alloc _) ⟨W'.heap.size, 0, none⟩ 1 1 [.int .i64 x] rfl rfl (cell_one_new _ _ _) (by simp [Value.oneCell']) (by simp [maxLen]; omega) (by omega) (by have := hB.size; simp; omega) ?_; intro v' w3 hown' hgrow _; obtain ⟨g', cap', rfl⟩ := ownsRow_succ hown'; obtain ⟨hv1, hv2, hr2, hk2, hb2⟩ := hv.appended (by decide) hrow hB.size (by omega) hown' hgrow; have hc1 := hv1.cell; have hf1 := hv1.frozen)
      have hkp := hTw.appended (u := .slice (some ⟨g', 0, none⟩) (pre.length + 1) cap') hrow hgrow (b := w1.heap.size + 1) (by have := HWS.out; omega)
      exact ⟨hk2.from _, hkp, ⟨_, hv2, by simpa [ints] using hr2, trivial⟩, hB.trans hb2, hTw.keep hkp⟩
    case done =>
      rintro D ys W' hD rfl ⟨⟨v, hv, hrow, _⟩, hB, hTw⟩ hK
      obtain ⟨A', c', rfl⟩ := own_slice hrow
      have hc := hv.cell
      have hle := own_le hrow
      generalize hys : turnsL n ri rj canB = ys at hv hrow hc hle HTD
      gi_wp2
      refine ⟨by simp, .inl ⟨_, _, rfl, run_takeDeferred hK, ?_⟩⟩
      have hil : (ints ys).length = ys.length := by simp [ints]
      have hvv := cut_V (A := A') (n := ys.length) (c := c') (xs := ints ys) (by rw [hil]; exact ownsRow_putObj hrow (.deferred none) hK rfl)
      rw [hil] at hvv
      refine ⟨_, results_tmp2 rfl _ _ _, _, by rw [HTD.out]; rfl, by rw [HTD.out]; exact hvv, ?_⟩
      exact hB.trans (belowK_b (w := w) (Nat.le_refl _) W' D _ _ (by have := below_size hB2; omega) hK rfl rfl)
    case stop =>
      rintro D c pre W _ _ h _
      exact h.elim
  · go_enter Tryd.func17, Tryd.ntmps17
    have hcb : (askedD R l one other == 0) = false := by simpa using h0
    have hcb2 : (askedD R l one other != 0) = true := by simpa using h0
    have hsd : turnsD R l one other = ([], askedD R l one other) := by simp [turnsD, h0]
    rw [hsd]
    go_wp2_with (go_at_call 59; refine (calls_asked R A c l one other _ (Kd.C_below HR.out hb0) hc (HG.out.below hb0)).mono ?_; rintro e w1 ⟨hb1, ⟨he, _⟩ | ⟨_, rfl⟩⟩; exact absurd he h0)
    exact bodyPost_ret (results_tmp2 rfl _ _ _) rfl ⟨_, rfl, Kd.V_nil _ _ _ _ _, below_alloc (hb0.trans (hb1.mono (by simp))) _⟩
end Go.Proofs.YtdllacjkacmghaaDoorD

namespace Go.Proofs.YtdllacjkacmghaaDoorD
open Go.RowKit Go.Proofs.YtdllacjkacmghaaDoorW.PrintWords Go.Proofs.YtdllacjkacmghaaDoorW.PrintLast Go.Proofs.YtdllacjkacmghaaDoorW.PrintMore Go.Proofs.YtdllacjkacmghaaDoorH
set_option linter.unusedVariables false
set_option linter.unusedSimpArgs false

/-- whose a row can be -/
def hasB (R : Nat) (rows : List (List Int)) (r : List Int) (k : Nat) : Bool := !(turnsL R (rows.getD k []) r canB).isEmpty
def whoseL (R : Nat) (rows : List (List Int)) (r : List Int) : List Nat := (List.range rows.length).filter (hasB R rows r)

theorem ints_append (a b : List Nat) : ints (a ++ b) = ints a ++ ints b := by simp [ints]
theorem ints_length (a : List Nat) : (ints a).length = a.length := by simp [ints]

set_option maxRecDepth 100000 in
set_option maxHeartbeats 1000000 in
theorem calls_whose (R : Nat) (hR : R ≤ 8) (HA : Option Addr) (hn hc : Nat) (RA : Option Addr) (rc m : Nat) (rows : List (List Int)) (h6 : rows.length ≤ 6) (r : List Int) (w : World)
    (hG : Glob w) (hrow : kRow.C w RA rows.length rows) (h8 : Rows8 rows) :
    Calls Tryd.prog 67 #[.agg #[.int .i64 R, .slice HA hn hc, .slice RA rows.length rc, .map (some m)], .agg (rowA r)] w fun e w' =>
      ∃ v, e = .returned v ∧ Kd.V (Kd.int .i64) 3 w' w.heap.size (fun k => w.heap.size ≤ k) v (ints (whoseL R rows r)) ∧ Below w.heap.size w w' := by
  go_enter Tryd.func67, Tryd.ntmps67
  have hX := blk_alloc (blk_new w (.cells #[.int .i64 R, .slice HA hn hc, .slice RA rows.length rc, .map (some m)] 72)) (.cells (rowA r) 79)
  have hY := blk_new (w.alloc (.cells #[.int .i64 R, .slice HA hn hc, .slice RA rows.length rc, .map (some m)] 72)) (.cells (rowA r) 79)
  rw [World.size_alloc] at hY
  have hB : Below w.heap.size w ((w.alloc (.cells #[.int .i64 R, .slice HA hn hc, .slice RA rows.length rc, .map (some m)] 72)).alloc (.cells (rowA r) 79)) := below_alloc (below_alloc (Below.refl _ _) _) _
  have HX := Lib.hid hX; have HY := Lib.hid hY; have HB := Lib.hid hB; have HG := Lib.hid hG; have HR := Lib.hid hrow; have H8 := Lib.hid h8
  clear hX hY hB hG hrow h8
  go_wp2_with fail
  go_loopw [5, 11] (fun u v wr => ∃ k : Nat, k ≤ rows.length ∧ v = .int .i64 k ∧ Hid (wr.heap[w.heap.size]? = some (.cells #[.int .i64 R, .slice HA hn hc, .slice RA rows.length rc, .map (some m)] 72 (0, 0))) ∧ Hid (wr.heap[w.heap.size + 1]? = some (.cells (rowA r) 79 (0, 0))) ∧ Hid (Kd.R (Kd.int .i64) 3 wr w.heap.size (fun _ => True) u (ints ((List.range k).filter (hasB R rows r)))) ∧ Hid (Below w.heap.size w wr)) (fun _ v _ => rows.length - (intOf v).toNat)
  case atStart => exact ⟨0, Nat.zero_le _, rfl, HX, HY, Lib.hid (Kd.R_nil _ _ _ _ _), HB⟩
  case round =>
    clear HX HY HB
    obtain ⟨k, hk, rfl, HX, HY, HO, HB⟩ := hrel
    obtain ⟨A', c', rfl, hle, _⟩ := Kd.R_reads HO.out
    by_cases hlt : k < rows.length
    · obtain ⟨ad, hA, hp0, hp⟩ := at_rowC (Kd.C_below HR.out HB.out) k hlt
      subst hA
      obtain ⟨rk, hrk⟩ : ∃ rk, rows.getD k [] = rk := ⟨_, rfl⟩
      have H8k : Hid (el (rows.getD k []) 0 ≠ 0) := (show ∀ r ∈ rows, el r 0 ≠ 0 from H8.out) _ (getD_mem hlt)
      have hhas : hasB R rows r k = !(turnsL R rk r canB).isEmpty := by rw [← hrk]; rfl
      rw [hrk] at hp0 hp H8k
      have HRK := Lib.hid hrk; clear hrk
      have HH := Lib.hid hhas; clear hhas
      have p1 := hp 1 (by omega) (by omega)
      have p2 := hp 2 (by omega) (by omega)
      have p3 := hp 3 (by omega) (by omega)
      have p4 := hp 4 (by omega) (by omega)
      have p5 := hp 5 (by omega) (by omega)
      have p6 := hp 6 (by omega) (by omega)
      have p7 := hp 7 (by omega) (by omega)
      clear hp
      obtain ⟨b0, b1, b2, b3⟩ : wr.cell? ⟨w.heap.size, 0, none⟩ = some (.int .i64 R) ∧ wr.cell? ⟨w.heap.size, 1, none⟩ = some (.slice HA hn hc) ∧ wr.cell? ⟨w.heap.size, 2, none⟩ = some (.slice (some ad) rows.length rc) ∧ wr.cell? ⟨w.heap.size, 3, none⟩ = some (.map (some m)) := ⟨blk_cell HX.out 0, blk_cell HX.out 1, blk_cell HX.out 2, blk_cell HX.out 3⟩
      obtain ⟨s0, s1, s2, s3, s4, s5, s6, s7⟩ := row_cells HY.out
      have g0 := pw_cell_below HB.out HG.out.can
      have l0 : w.heap.size < wr.heap.size := blk_lt HX.out
      have l1 : w.heap.size + 1 < wr.heap.size := blk_lt HY.out
      have l2 : 0 < wr.heap.size := World.block_lt_of_cell? wr _ g0
      by_cases hb : hasB R rows r k = true
      · go_wp2_with (first | (go_at_call 85; refine (calls_some R hR HA hn hc (some ad) rows.length rc m rk r H8k.out 110 canB alike_can _).mono ?_; rintro e w1 ⟨he, hb1⟩; rw [← HH.out, hb] at he; subst he; have HX1 := Lib.hid (blk_below (blk_alloc HX.out (.cells (rowA rk) 79)) hb1); have HY1 := Lib.hid (blk_below (blk_alloc HY.out (.cells (rowA rk) 79)) hb1); have HO1 := Lib.hid (Kd.R_below (Kd.R_alloc HO.out (.cells (rowA rk) 79)) hb1); have hs1 := below_size hb1; have HB1 := Lib.hid ((HB.out.alloc (by have := below_size HB.out; omega) (.cells (rowA rk) 79)).trans (hb1.mono (by simp; have := below_size HB.out; omega))); clear hb1) | ((with_reducible refine gate_builtin (b := .append) (xs := #[.tmp 22, .tmp 24]) rfl ?_); at_builtin; refine Kd.R_append (Kd.int .i64) (w0 := w) w.heap.size rfl (.tmp 22) (.tmp 24) 26 3 (.int .i64 0) 8 rfl Tryd.underlying26 infoInt rfl (by decide) (by omega) _ (ints ((List.range k).filter (hasB R rows r))) (k : Int) [.int .i64 k] (fun _ => True) (fun _ => False) rfl rfl ?aP (fun _ hk => hk.elim) ?aF ?aO ?aB ?aS ?aL ?_; (case aP => exact rfl); (case aF => exact (fun _ _ => trivial)); (case aO => exact HO1.out); (case aB => exact HB1.out); (case aS => exact below_size HB1.out); (case aL => rw [ints_length]; have := List.length_filter_le (hasB R rows r) (List.range k); rw [List.length_range] at this; omega); intro v2 w2 ho hb2 hg2 hat))
        obtain ⟨A2, c2, rfl, _, _⟩ := Kd.R_reads ho
        go_roundw
        case rel =>
          refine ⟨k + 1, by omega, by go_num, ?_, ?_, ?_, Lib.hid hb2⟩
          · exact blk_grown HX1.out hg2 (Kd.R_ne HO1.out HX1.out (by decide))
          · exact blk_grown HY1.out hg2 (Kd.R_ne HO1.out HY1.out (by decide))
          · rw [filter_next_yes hb, ints_append]; exact ho
        case measure => simp [intOf]; omega
      · have hb : hasB R rows r k = false := by simpa using hb
        go_wp2_with (go_at_call 85; refine (calls_some R hR HA hn hc (some ad) rows.length rc m rk r H8k.out 110 canB alike_can _).mono ?_; rintro e w1 ⟨he, hb1⟩; rw [← HH.out, hb] at he; subst he; have HX1 := Lib.hid (blk_below (blk_alloc HX.out (.cells (rowA rk) 79)) hb1); have HY1 := Lib.hid (blk_below (blk_alloc HY.out (.cells (rowA rk) 79)) hb1); have HO1 := Lib.hid (Kd.R_below (Kd.R_alloc HO.out (.cells (rowA rk) 79)) hb1); have hs1 := below_size hb1; have HB1 := Lib.hid ((HB.out.alloc (by have := below_size HB.out; omega) (.cells (rowA rk) 79)).trans (hb1.mono (by simp; have := below_size HB.out; omega))); clear hb1)
        go_roundw
        case rel => exact ⟨k + 1, by omega, by go_num, HX1, HY1, by rw [filter_next_no hb]; exact HO1, HB1⟩
        case measure => simp [intOf]; omega
    · obtain rfl : k = rows.length := by omega
      rw [show (List.range rows.length).filter (hasB R rows r) = whoseL R rows r from rfl] at HO hle ⊢
      go_wp2_with fail
      have h2 := Kd.V_at (Kd.R_V (base' := w.heap.size) (Kd.R_mono (ok' := fun k => w.heap.size ≤ k) (Kd.R_tight rfl HO.out) (fun k hk => Kd.R_base HO.out k hk.symm)))
      exact bodyPost_ret (results_tmp rfl _ _ _) rfl ⟨_, rfl, Kd.V_mk (Nat.le_refl _) h2.2.2, HB.out⟩
end Go.Proofs.YtdllacjkacmghaaDoorD
