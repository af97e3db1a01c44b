/- The walks of package dapple: the turns. The walks of package dapple: whether there is a turn. -/
import Derived.Test.YtdllacjkacmghaaDoorGa
import Derived.ChangeKeysEq
namespace Go.Proofs.YtdllacjkacmghaaDoorD
open Go.RowKit Go.Proofs.YtdllacjkacmghaaDoorW.PrintWords Go.Proofs.YtdllacjkacmghaaDoorW.PrintLast Go.Proofs.YtdllacjkacmghaaDoorW.PrintMore Go.Proofs.YtdllacjkacmghaaDoorH
set_option linter.unusedVariables false
set_option linter.unusedSimpArgs false

/-- can two sets be the same size -/
def canB (x y : Int) : Bool := Go.bits .and .i64 x y != 0
/-- are two sets surely the same size -/
def sureB (x y : Int) : Bool := (x == y) && (Go.bits .and .i64 x (wrap64 (x - 1)) == 0)

theorem calls_can (x y : Int) (w : World) : Calls Tryd.prog 110 #[.int .i64 x, .int .i64 y] w fun e w' => e = .returned (.bool (canB x y)) ∧ w = w' := by
  go_enter Tryd.func110, Tryd.ntmps110
  go_wp2
  go_ret
  exact ⟨rfl, rfl⟩

theorem calls_sure (x y : Int) (w : World) : Calls Tryd.prog 112 #[.int .i64 x, .int .i64 y] w fun e w' => e = .returned (.bool (sureB x y)) ∧ w = w' := by
  go_enter Tryd.func112, Tryd.ntmps112
  by_cases h : x = y
  · subst h
    have h1 : (x == x) = true := by simp
    go_wp2
    go_ret
    exact ⟨by simp [sureB], rfl⟩
  · have h1 : (x == y) = false := by simpa using h
    go_wp2
    go_ret
    exact ⟨by simp [sureB, h1], rfl⟩

/-- one of the two functions of the table, and what it tells -/
structure Alike (a : Nat) (al : Int → Int → Bool) : Prop where
  call : ∀ (x y : Int) (w : World), Calls Tryd.prog a #[.int .i64 x, .int .i64 y] w fun e w' => e = .returned (.bool (al x y)) ∧ w = w'
  fn : ∃ fn, Tryd.prog.funcs[a]? = some fn ∧ (fn.name == "runtime.NumGoroutine") = false ∧ fn.body.isSome = true
theorem alike_can : Alike 110 canB := ⟨calls_can, _, Tryd.func110, by kernel_rfl, rfl⟩
theorem alike_sure : Alike 112 sureB := ⟨calls_sure, _, Tryd.func112, by kernel_rfl, rfl⟩

/-- what the closure of the turns has captured, from block g on -/
structure TurnBox (W : World) (g : Nat) (R : Int) (HA : Option Addr) (hn hc : Nat) (RA : Option Addr) (rn rc m : Nat) (r s : List Int) (a : Nat) : Prop where
  book : W.heap[g]? = some (.cells #[.int .i64 R, .slice HA hn hc, .slice RA rn rc, .map (some m)] 72 (0, 0))
  one : W.heap[g + 1]? = some (.cells (rowA r) 79 (0, 0))
  other : W.heap[g + 2]? = some (.cells (rowA s) 79 (0, 0))
  alike : W.heap[g + 3]? = some (.cells #[.func (.func a) #[] #[]] 80 (0, 0))
theorem TurnBox.keep {W W1 : World} {g : Nat} {R : Int} {HA : Option Addr} {hn hc : Nat} {RA : Option Addr} {rn rc m : Nat} {r s : List Int} {a : Nat} (h : TurnBox W g R HA hn hc RA rn rc m r s a) (hb : KeepG g W W1) : TurnBox W1 g R HA hn hc RA rn rc m r s a :=
  ⟨(hb _ (by omega) (by omega)).trans h.book, (hb _ (by omega) (by omega)).trans h.one, (hb _ (by omega) (by omega)).trans h.other, (hb _ (by omega) (by omega)).trans h.alike⟩
theorem keepG_below {g B : Nat} {W W1 : World} (hb : Below B W W1) (h : g + 4 ≤ B) : KeepG g W W1 := fun k h1 h2 => hb.block k (by omega)

theorem calls_turns (R : Int) (HA : Option Addr) (hn hc : Nat) (RA : Option Addr) (rn rc m : Nat) (r s : List Int) (a : Nat) (w : World) :
    Calls Tryd.prog 60 #[.agg #[.int .i64 R, .slice HA hn hc, .slice RA rn rc, .map (some m)], .agg (rowA r), .agg (rowA s), .func (.func a) #[] #[]] w fun e w' =>
      e = .returned (.func (.func 82) #[] #[.pointer (some ⟨w.heap.size, 0, none⟩), .pointer (some ⟨w.heap.size + 3, 0, none⟩), .pointer (some ⟨w.heap.size + 1, 0, none⟩), .pointer (some ⟨w.heap.size + 2, 0, none⟩)]) ∧
      TurnBox w' w.heap.size R HA hn hc RA rn rc m r s a ∧ Below w.heap.size w w' ∧ w'.heap.size = w.heap.size + 4 := by
  go_enter Tryd.func60, Tryd.ntmps60
  go_wp2
  go_ret
  refine ⟨rfl, ⟨?_, ?_, ?_, ?_⟩, ?_, by simp⟩
  · exact blk_alloc (blk_alloc (blk_alloc (blk_new w _) _) _) _
  · have := blk_new (w.alloc (.cells #[.int .i64 R, .slice HA hn hc, .slice RA rn rc, .map (some m)] 72)) (.cells (rowA r) 79)
    rw [World.size_alloc] at this
    exact blk_alloc (blk_alloc this _) _
  · have := blk_new ((w.alloc (.cells #[.int .i64 R, .slice HA hn hc, .slice RA rn rc, .map (some m)] 72)).alloc (.cells (rowA r) 79)) (.cells (rowA s) 79)
    simp only [World.size_alloc] at this
    exact blk_alloc this _
  · have := blk_new (((w.alloc (.cells #[.int .i64 R, .slice HA hn hc, .slice RA rn rc, .map (some m)] 72)).alloc (.cells (rowA r) 79)).alloc (.cells (rowA s) 79)) (.cells #[.func (.func a) #[] #[]] 80)
    simp only [World.size_alloc] at this
    exact this
  · exact below_alloc (below_alloc (below_alloc (below_alloc (Below.refl _ _) _) _) _) _

/-- the turns in which a row is alike another one -/
def turnsL (R : Nat) (r s : List Int) (al : Int → Int → Bool) : List Nat := (List.range R).filter fun t => (List.range R).all fun k => al (el r ((k + t) % R)) (el s k)

theorem filter_next_yes {p : Nat → Bool} {k : Nat} (h : p k = true) : (List.range (k + 1)).filter p = (List.range k).filter p ++ [k] := by
  rw [List.range_succ, List.filter_append]; simp [h]
theorem filter_next_no {p : Nat → Bool} {k : Nat} (h : p k = false) : (List.range (k + 1)).filter p = (List.range k).filter p := by
  rw [List.range_succ, List.filter_append]; simp [h]
theorem filter_prefix {p : Nat → Bool} {k R : Nat} (hk : k < R) (h : p k = true) : (List.range k).filter p ++ [k] <+: (List.range R).filter p := by
  rw [← filter_next_yes h]
  have : List.range R = List.range (k + 1) ++ (List.range (R - (k + 1))).map (k + 1 + ·) := by
    rw [← List.range_add]; congr 1; omega
  rw [this, List.filter_append]
  exact List.prefix_append _ _
set_option maxRecDepth 100000 in
set_option maxHeartbeats 1000000 in
theorem turns_in (n : Nat) (l g : Nat) (R : Nat) (hR : R ≤ 8) (HA : Option Addr) (hn hc : Nat) (RA : Option Addr) (rn rc m : Nat) (r s : List Int) (a : Nat) (al : Int → Int → Bool) (hal : Alike a al) (J Jx : List Nat → World → Prop)
    (hY : ∀ pre x W, J pre W → pre.length < 8 → YieldAt Fence.wide (n - 1) Tryd.prog l #[.int .i64 (x : Nat)] W fun e W' =>
      (e = .returned (.bool true) ∧ J (pre ++ [x]) W' ∧ KeepG g W W') ∨ (e = .returned (.bool false) ∧ Jx (pre ++ [x]) W'))
    (hJd : ∀ pre A, J pre A → J pre A.drew) (W : World) (hT : TurnBox W g R HA hn hc RA rn rc m r s a) (h0 : J [] W) :
    CallsIn Fence.wide n Tryd.prog 82 #[.func (.yield l) #[] #[], .pointer (some ⟨g, 0, none⟩), .pointer (some ⟨g + 3, 0, none⟩), .pointer (some ⟨g + 1, 0, none⟩), .pointer (some ⟨g + 2, 0, none⟩)] W fun e W' => (∃ v, e = .returned v) ∧
      ((∃ ys, ys = turnsL R r s al ∧ J ys W') ∨ (∃ pre, pre <+: turnsL R r s al ∧ Jx pre W')) := by
  refine callsIn_of_wp Tryd.func82 rfl trivial ?_ rfl
  simp only [Tryd.ntmps82, List.size_toArray, List.length_cons, List.length_nil, Nat.reduceAdd, Nat.reduceSub, Array.replicate_succ, Array.replicate_zero, List.push_toArray, List.append_toArray, List.nil_append, List.cons_append]
  have hc0 : W.cell? ⟨g, 0, none⟩ = some (.int .i64 R) := blk_cell hT.book 0
  gi_wp2
  refine wpIn_scope ?_
  gi_step
  refine wpIn_label ?_
  gi_wp2
  have HB := Lib.hid (KeepG.refl g W)
  have H0 := Lib.hid h0
  clear h0 hc0
  gi_loopw [11] (fun v wr => ∃ k : Nat, k ≤ R ∧ v = .int .i64 k ∧ Hid (J ((List.range k).filter fun t => (List.range R).all fun k => al (el r ((k + t) % R)) (el s k)) wr) ∧ Hid (KeepG g W wr)) (fun v _ => R - (intOf v).toNat)
  case atStart => exact ⟨0, Nat.zero_le _, rfl, H0, HB⟩
  case round =>
    clear H0 HB
    obtain ⟨k, hk, rfl, HJ, HB⟩ := hrel
    have hT1 := hT.keep HB.out
    have hc0 : wr.cell? ⟨g, 0, none⟩ = some (.int .i64 R) := blk_cell hT1.book 0
    have HT := Lib.hid hT1; clear hT1
    have hY' := hY
    clear hY
    by_cases hlt : k < R
    · obtain ⟨wo, rfl⟩ : ∃ wo : World, wo = wr := ⟨_, rfl⟩
      gi_wp2_with fail
      gi_loopw [17] (fun v wi => ∃ j : Nat, j ≤ R ∧ v = .int .i64 j ∧ Hid (∀ i, i < j → al (el r ((i + k) % R)) (el s i) = true) ∧ Hid (J ((List.range k).filter fun t => (List.range R).all fun k => al (el r ((k + t) % R)) (el s k)) wi) ∧ Hid (KeepG g W wi)) (fun v _ => R - (intOf v).toNat)
      case atStart => exact ⟨0, Nat.zero_le _, rfl, Lib.hid (fun i h => absurd h (Nat.not_lt_zero i)), HJ, HB⟩
      case round =>
        clear HJ HB HT hc0
        obtain ⟨j, hj, rfl, HA1, HJ, HB⟩ := hrel
        obtain ⟨fn, hfn, hfn1, hfn2⟩ := hal.fn
        have HF := Lib.hid hfn; clear hfn
        have HF1 := Lib.hid hfn1; clear hfn1
        have HF2 := Lib.hid hfn2; clear hfn2
        have hT1 := hT.keep HB.out
        have hc0 : wr.cell? ⟨g, 0, none⟩ = some (.int .i64 R) := blk_cell hT1.book 0
        have hcl : wr.cell? ⟨g + 3, 0, none⟩ = some (.func (.func a) #[] #[]) := blk_cell hT1.alike 0
        have HT := Lib.hid hT1; clear hT1
        by_cases hltj : j < R
        · gi_wp2_with fail
          refine wpIn_wide.2 ?_
          have hj8 : (j : Int) < 8 := by omega
          have hR1 : ¬ R = 0 := by omega
          obtain ⟨q, hq⟩ : ∃ q : Nat, q = (j + k) % R := ⟨_, rfl⟩
          have hq8 : q < 8 := by have := Nat.mod_lt (j + k) (show 0 < R by omega); omega
          have hq2 : (q : Int) < 8 := by omega
          have hq1 : ((j : Int) + (k : Int)) % (R : Int) = (q : Int) := by rw [hq]; simp
          have hq3 : Int.tmod ((j : Int) + (k : Int)) (R : Int) = (q : Int) := by rw [Int.tmod_eq_emod_of_nonneg (by omega)]; exact hq1
          have hw1 : wrap64 ((j : Int) + (k : Int)) = (j : Int) + (k : Int) := by unfold wrap64; omega
          have HQ := Lib.hid hq; clear hq
          have hcj : wr.cell? ⟨g + 2, j, none⟩ = some (.int .i64 (el s j)) := (blk_cell HT.out.other j).trans (rowA_get _ _ (by omega))
          have hci : wr.cell? ⟨g + 1, q, none⟩ = some (.int .i64 (el r q)) := (blk_cell HT.out.one q).trans (rowA_get _ _ hq8)
          refine start_ (n := 15) (S := fun w' => w'.cell? ⟨g + 3, 0, none⟩ = some (.func (.func a) #[] #[]) ∧ w'.cell? ⟨g, 0, none⟩ = some (.int .i64 R) ∧ w'.cell? ⟨g + 1, q, none⟩ = some (.int .i64 (el r q)) ∧ w'.cell? ⟨g + 2, j, none⟩ = some (.int .i64 (el s j))) (ds := []) #[false, false, false, false, false, false, false, false, false, false, false, false, false, false, false] (by kernel_rfl) rfl rfl ⟨hcl, hc0, hci, hcj⟩ (fun hHeld => ?_)
          refine pure_ (i := 1) (N := some 21) (v := ?_) (a' := ?_) #[false, true, false, false, false, false, false, false, false, false, false, false, false, false, false] rfl rfl (by kernel_rfl) (fun _ _ _ h => h) (Or.inl ⟨by rfl, ?_⟩) ?_ ?_
          rotate_left
          · intro w'
            go_simp
            with_reducible rfl
          rotate_left
          · simp only [Act.put, List.setIfInBounds_toArray, List.set_cons_zero, List.set_cons_succ, i64_w, i32_w]
            rfl
          refine pure_ (i := 2) (N := some 22) (v := ?_) (a' := ?_) #[false, true, true, false, false, false, false, false, false, false, false, false, false, false, false] rfl rfl (by kernel_rfl) (fun _ _ _ h => h) (Or.inl ⟨by rfl, ?_⟩) ?_ ?_
          rotate_left
          · intro w'
            go_simp
            with_reducible rfl
          rotate_left
          · simp only [Act.put, List.setIfInBounds_toArray, List.set_cons_zero, List.set_cons_succ, i64_w, i32_w]
            rfl
          refine pure_ (i := 3) (N := some 23) (v := ?_) (a' := ?_) #[false, true, true, true, false, false, false, false, false, false, false, false, false, false, false] rfl rfl (by kernel_rfl) (fun _ _ _ h => h) (Or.inl ⟨by rfl, ?_⟩) ?_ ?_
          rotate_left
          · intro w'
            go_simp
            with_reducible rfl
          rotate_left
          · simp only [Act.put, List.setIfInBounds_toArray, List.set_cons_zero, List.set_cons_succ, i64_w, i32_w]
            rfl
          refine pure_ (i := 4) (N := some 24) (v := ?_) (a' := ?_) #[false, true, true, true, true, false, false, false, false, false, false, false, false, false, false] rfl rfl (by kernel_rfl) (fun _ _ _ h => h) (Or.inl ⟨by rfl, ?_⟩) ?_ ?_
          rotate_left
          · intro w'
            go_simp
            with_reducible rfl
          rotate_left
          · simp only [Act.put, List.setIfInBounds_toArray, List.set_cons_zero, List.set_cons_succ, i64_w, i32_w]
            rfl
          refine pure_ (i := 5) (N := some 25) (v := ?_) (a' := ?_) #[false, true, true, true, true, true, false, false, false, false, false, false, false, false, false] rfl rfl (by kernel_rfl) (fun _ _ _ h => h) (Or.inl ⟨by rfl, ?_⟩) ?_ ?_
          rotate_left
          · intro w'
            go_simp
            with_reducible rfl
          rotate_left
          · simp only [Act.put, List.setIfInBounds_toArray, List.set_cons_zero, List.set_cons_succ, i64_w, i32_w]
            rfl
          refine pure_ (i := 10) (N := some 30) (v := ?_) (a' := ?_) #[false, true, true, true, true, true, false, false, false, false, true, false, false, false, false] rfl rfl (by kernel_rfl) (fun _ _ _ h => h) (Or.inl ⟨by rfl, ?_⟩) ?_ ?_
          rotate_left
          · intro w'
            go_simp
            with_reducible rfl
          rotate_left
          · simp only [Act.put, List.setIfInBounds_toArray, List.set_cons_zero, List.set_cons_succ, i64_w, i32_w]
            rfl
          refine pure_ (i := 11) (N := some 31) (v := ?_) (a' := ?_) #[false, true, true, true, true, true, false, false, false, false, true, true, false, false, false] rfl rfl (by kernel_rfl) (fun _ _ _ h => h) (Or.inl ⟨by rfl, ?_⟩) ?_ ?_
          rotate_left
          · intro w'
            go_simp
            with_reducible rfl
          rotate_left
          · simp only [Act.put, List.setIfInBounds_toArray, List.set_cons_zero, List.set_cons_succ, i64_w, i32_w]
            rfl
          refine take_ (i := 0) (N := some 20) (v := ?_) (a' := ?_) #[true, true, true, true, true, true, false, false, false, false, true, true, false, false, false] rfl rfl (by kernel_rfl) (fun _ _ _ h => h) (Or.inl ⟨by rfl, ?_⟩) hHeld ?_ ?_
          rotate_left
          · rintro w' ⟨s0, s1, s2, s3⟩
            go_simp
            with_reducible rfl
          rotate_left
          · simp only [Act.put, List.setIfInBounds_toArray, List.set_cons_zero, List.set_cons_succ, i64_w, i32_w]
            rfl
          refine take_ (i := 6) (N := some 26) (v := ?_) (a' := ?_) #[true, true, true, true, true, true, true, false, false, false, true, true, false, false, false] rfl rfl (by kernel_rfl) (fun _ _ _ h => h) (Or.inl ⟨by rfl, ?_⟩) hHeld ?_ ?_
          rotate_left
          · rintro w' ⟨s0, s1, s2, s3⟩
            go_simp
            with_reducible rfl
          rotate_left
          · simp only [Act.put, List.setIfInBounds_toArray, List.set_cons_zero, List.set_cons_succ, i64_w, i32_w]
            rfl
          refine pure_ (i := 7) (N := some 27) (v := ?_) (a' := ?_) #[true, true, true, true, true, true, true, true, false, false, true, true, false, false, false] rfl rfl (by kernel_rfl) (fun _ _ _ h => h) (Or.inl ⟨by rfl, ?_⟩) ?_ ?_
          rotate_left
          · intro w'
            go_simp
            with_reducible rfl
          rotate_left
          · simp only [Act.put, List.setIfInBounds_toArray, List.set_cons_zero, List.set_cons_succ, i64_w, i32_w]
            rfl
          refine pure_ (i := 8) (N := some 28) (v := ?_) (a' := ?_) #[true, true, true, true, true, true, true, true, true, false, true, true, false, false, false] rfl rfl (by kernel_rfl) (fun _ _ _ h => h) (Or.inl ⟨by rfl, ?_⟩) ?_ ?_
          rotate_left
          · intro w'
            go_simp
            with_reducible rfl
          rotate_left
          · simp only [Act.put, List.setIfInBounds_toArray, List.set_cons_zero, List.set_cons_succ, i64_w, i32_w]
            rfl
          refine take_ (i := 9) (N := some 29) (v := ?_) (a' := ?_) #[true, true, true, true, true, true, true, true, true, true, true, true, false, false, false] rfl rfl (by kernel_rfl) (fun _ _ _ h => h) (Or.inl ⟨by rfl, ?_⟩) hHeld ?_ ?_
          rotate_left
          · rintro w' ⟨s0, s1, s2, s3⟩
            go_simp
            with_reducible rfl
          rotate_left
          · simp only [Act.put, List.setIfInBounds_toArray, List.set_cons_zero, List.set_cons_succ, i64_w, i32_w]
            rfl
          refine take_ (i := 12) (N := some 32) (v := ?_) (a' := ?_) #[true, true, true, true, true, true, true, true, true, true, true, true, true, false, false] rfl rfl (by kernel_rfl) (fun _ _ _ h => h) (Or.inl ⟨by rfl, ?_⟩) hHeld ?_ ?_
          rotate_left
          · rintro w' ⟨s0, s1, s2, s3⟩
            go_simp
            with_reducible rfl
          rotate_left
          · simp only [Act.put, List.setIfInBounds_toArray, List.set_cons_zero, List.set_cons_succ, i64_w, i32_w]
            rfl
          refine one_ (i := 13) (N := some 33) #[true, true, true, true, true, true, true, true, true, true, true, true, true, true, false] rfl rfl (by kernel_rfl) (by decide) (fun K hK => ?_)
          refine goesV_ HF.out HF1.out HF2.out #[.int .i64 (el r q), .int .i64 (el s j)] (by rfl) rfl rfl rfl (by (try simp only [Array.empty_append, Array.append_empty, List.map_toArray, List.map_cons, List.map_nil, List.append_toArray, List.nil_append, List.append_nil, List.cons_append]); rfl) ?_
          with_reducible refine (hal.call _ _ _).mono ?_
          rintro e w1 ⟨rfl, rfl⟩
          refine ⟨_, rfl, ?_⟩
          refine hK.out _ _ ⟨hcl, hc0, hci, hcj⟩ (fun hHeld => ?_)
          clear hK K
          refine norm_ (a' := ?_) ?_ ?_
          rotate_left
          · show Act.put _ (some 33) _ = _
            simp only [Act.put, List.setIfInBounds_toArray, List.set_cons_zero, List.set_cons_succ, i64_w, i32_w]
            rfl
          refine pure_ (i := 14) (N := some 34) (v := ?_) (a' := ?_) #[true, true, true, true, true, true, true, true, true, true, true, true, true, true, true] rfl rfl (by kernel_rfl) (fun _ _ _ h => h) (Or.inl ⟨by rfl, ?_⟩) ?_ ?_
          rotate_left
          · intro w'
            go_simp
            with_reducible rfl
          rotate_left
          · simp only [Act.put, List.setIfInBounds_toArray, List.set_cons_zero, List.set_cons_succ, i64_w, i32_w]
            rfl
          refine done_ (by kernel_rfl) ?_

          have HJ1 := Lib.hid (hJd _ _ HJ.out)
          have HB1 := Lib.hid HB.out.drew
          clear hc0 hcl hcj hci
          cases hb : al (el r q) (el s j) with
          | true =>
            gi_wp2
            go_roundw
            case rel =>
              refine ⟨j + 1, by omega, by go_num, fun i hi => ?_, HJ1, HB1⟩
              by_cases e : i = j
              · subst e; rw [← HQ.out]; exact hb
              · exact HA1.out i (by omega)
            case measure => simp [intOf]; omega
          | false =>
            gi_wp2
            go_roundw
            case rel =>
              refine ⟨k + 1, by omega, by go_num, ?_, HB1⟩
              rw [filter_next_no]
              · exact HJ1
              · rw [Bool.eq_false_iff, ne_eq, List.all_eq_true]
                intro h
                have := h j (List.mem_range.2 hltj)
                rw [← HQ.out, hb] at this
                cases this
            case measure => simp [intOf]; omega
        · obtain rfl : j = R := by omega
          obtain ⟨fn, tmps, assign, body, hy, hRd⟩ := hY' _ k wr HJ.out (by have := List.length_filter_le (fun t => (List.range j).all fun k => al (el r ((k + t) % j)) (el s k)) (List.range k); rw [List.length_range] at this; omega)
          have HRd := Lib.hid hRd; clear hRd
          gi_wp2
          refine ⟨fun h => by simp [Fence.wide] at h, HRd.out.mono ?_⟩
          rintro e W3 (⟨rfl, hJ3, hk3⟩ | ⟨rfl, hJx3⟩)
          · gi_wp2
            go_roundw
            case rel =>
              refine ⟨k + 1, by omega, by go_num, ?_, HB.out.trans hk3⟩
              rw [filter_next_yes]
              · exact hJ3
              · rw [List.all_eq_true]
                intro i hi
                exact HA1.out i (List.mem_range.1 hi)
            case measure => simp [intOf]; omega
          · gi_wp2
            simp only [Exit.noGoto]
            gi_wp2
            refine bodyPost_ret (results_none rfl _ _ _) rfl ?_
            exact ⟨⟨_, rfl⟩, .inr ⟨_, filter_prefix hlt (by rw [List.all_eq_true]; intro i hi; exact HA1.out i (List.mem_range.1 hi)), hJx3⟩⟩
    · gi_wp2
      obtain rfl : k = R := by omega
      simp only [Exit.noGoto]
      gi_wp2
      go_end0
      exact ⟨⟨_, rfl⟩, .inl ⟨_, rfl, HJ.out⟩⟩

end Go.Proofs.YtdllacjkacmghaaDoorD

namespace Go.Proofs.YtdllacjkacmghaaDoorD
open Go.RowKit Go.Proofs.YtdllacjkacmghaaDoorW.PrintWords Go.Proofs.YtdllacjkacmghaaDoorW.PrintLast Go.Proofs.YtdllacjkacmghaaDoorW.PrintMore Go.Proofs.YtdllacjkacmghaaDoorH
set_option linter.unusedVariables false
set_option linter.unusedSimpArgs false

attribute [local go_sem] Oper.semAt_some
theorem turns_stops (n : Nat) (g : Nat) (R : Nat) (hR : R ≤ 8) (HA : Option Addr) (hn hc : Nat) (RA : Option Addr) (rn rc m : Nat) (r s : List Int) (a : Nat) (al : Int → Int → Bool) (hal : Alike a al) (w : World) (hw : g + 4 ≤ w.heap.size) (hT : TurnBox w g R HA hn hc RA rn rc m r s a) :
    SeqStopsK Fence.wide n Tryd.prog 82 #[.pointer (some ⟨g, 0, none⟩), .pointer (some ⟨g + 3, 0, none⟩), .pointer (some ⟨g + 1, 0, none⟩), .pointer (some ⟨g + 2, 0, none⟩)] (fun x : Nat => #[.int .i64 (x : Nat)]) (KeepG g) (fun xs => xs = turnsL R r s al) (fun pre => pre <+: turnsL R r s al) 8 w :=
  fun l J Jx W hW hJ hJx hY h0 =>
    turns_in n l g R hR HA hn hc RA rn rc m r s a al hal J Jx (fun pre x W1 h1 h2 => hY pre x W1 h1 h2) (fun pre A h => hJ pre A A.drew none h ⟨rfl, rfl, rfl, Nat.le_refl _, fun _ _ _ => rfl⟩ (fun r e => by cases e)) W
      (hT.keep (keepG_below hW hw)) h0

set_option maxRecDepth 100000 in
theorem run_eqRow (d : Nat) (r s : List Int) (w : World) : (Op.equalIn (d + 1 + 1) 79 (.agg (rowA r)) (.agg (rowA s))).run Tryd.prog w = .ok ((List.range 8).all fun i => el r i == el s i) w := by
  obtain ⟨i0, hi⟩ : ∃ i, Tryd.prog.info? 77 = some i := ⟨_, rfl⟩
  rw [run_equalIn_array w (d + 1) (rowA r) (rowA s) Tryd.underlying79 hi]
  have hcs : Tryd.prog.cellsOf 77 = 1 := by kernel_rfl
  rw [hcs]
  refine run_eqItems_fn (fun i => .int .i64 (el r i)) (fun i => .int .i64 (el s i)) _ _ ?_ ?_ ?_
  all_goals
    intro i hi
    simp only [List.mem_range] at hi
    match i, hi with
    | 0, _ => first | (go_simp; done) | (go_simp; rfl)
    | 1, _ => first | (go_simp; done) | (go_simp; rfl)
    | 2, _ => first | (go_simp; done) | (go_simp; rfl)
    | 3, _ => first | (go_simp; done) | (go_simp; rfl)
    | 4, _ => first | (go_simp; done) | (go_simp; rfl)
    | 5, _ => first | (go_simp; done) | (go_simp; rfl)
    | 6, _ => first | (go_simp; done) | (go_simp; rfl)
    | 7, _ => first | (go_simp; done) | (go_simp; rfl)

set_option maxRecDepth 100000 in
set_option maxHeartbeats 400000 in
theorem calls_some (R : Nat) (hR : R ≤ 8) (HA : Option Addr) (hn hc : Nat) (RA : Option Addr) (rn rc m : Nat) (r s : List Int) (hr : el r 0 ≠ 0) (a : Nat) (al : Int → Int → Bool) (hal : Alike a al) (w : World) :
    Calls Tryd.prog 85 #[.agg #[.int .i64 R, .slice HA hn hc, .slice RA rn rc, .map (some m)], .agg (rowA r), .agg (rowA s), .func (.func a) #[] #[]] w fun e w' =>
      e = .returned (.bool (!(turnsL R r s al).isEmpty)) ∧ Below w.heap.size w w' := by
  refine (callsIn_wide (n := 3)).1 ?_
  refine callsIn_of_wp_marks Tryd.func85 rfl trivial ?_
  simp only [Tryd.ntmps85, List.size_toArray, List.length_cons, List.length_nil, Nat.reduceAdd, Nat.reduceSub, Array.replicate_succ, Array.replicate_zero, List.push_toArray, List.append_toArray, List.nil_append, List.cons_append]
  gi_wp2_with fail
  have hb5 := blk_alloc (blk_alloc (blk_new (w.alloc (.cells #[.int .i64 R, .slice HA hn hc, .slice RA rn rc, .map (some m)] 72)) (.cells (rowA r) 79)) (.cells (rowA s) 79)) (.cells #[.bool false] 4)
  simp only [World.size_alloc] at hb5
  obtain ⟨c0, c1, c2, c3, c4, c5, c6, c7⟩ := row_cells hb5
  have he : ∀ W, (Op.equalIn 10000 79 (.agg #[.int .i64 (el r 0), .int .i64 (el r 1), .int .i64 (el r 2), .int .i64 (el r 3), .int .i64 (el r 4), .int .i64 (el r 5), .int .i64 (el r 6), .int .i64 (el r 7)]) (.agg #[.int .i64 0, .int .i64 0, .int .i64 0, .int .i64 0, .int .i64 0, .int .i64 0, .int .i64 0, .int .i64 0])).run Tryd.prog W = .ok false W := fun W => (run_eqRow 9998 r [] W).trans (by
    congr 1
    have h0 : (el r 0 == el [] 0) = false := by simpa [el] using hr
    simp only [List.range_succ, List.range_zero, List.nil_append, List.cons_append, List.all_cons, h0, Bool.false_and])
  refine wpIn_wide.2 (wp_region_noPanic ?_)
  refine start_ (n := 3) (S := fun w' => w'.cell? ⟨w.heap.size + 1, 0, none⟩ = some (.int .i64 (el r 0)) ∧ w'.cell? ⟨w.heap.size + 1, 1, none⟩ = some (.int .i64 (el r 1)) ∧ w'.cell? ⟨w.heap.size + 1, 2, none⟩ = some (.int .i64 (el r 2)) ∧ w'.cell? ⟨w.heap.size + 1, 3, none⟩ = some (.int .i64 (el r 3)) ∧ w'.cell? ⟨w.heap.size + 1, 4, none⟩ = some (.int .i64 (el r 4)) ∧ w'.cell? ⟨w.heap.size + 1, 5, none⟩ = some (.int .i64 (el r 5)) ∧ w'.cell? ⟨w.heap.size + 1, 6, none⟩ = some (.int .i64 (el r 6)) ∧ w'.cell? ⟨w.heap.size + 1, 7, none⟩ = some (.int .i64 (el r 7))) (ds := []) #[false, false, false] (by kernel_rfl) rfl rfl ⟨c0, c1, c2, c3, c4, c5, c6, c7⟩ (fun hHeld => ?_)
  refine take_ (i := 0) (N := some 9) (v := ?_) (a' := ?_) #[true, false, false] rfl rfl (by kernel_rfl) (fun _ _ _ h => h) (Or.inl ⟨by rfl, ?_⟩) hHeld ?_ ?_
  rotate_left
  · rintro w' ⟨s0, s1, s2, s3, s4, s5, s6, s7⟩
    go_simp
    with_reducible rfl
  rotate_left
  · simp only [Act.put, List.setIfInBounds_toArray, List.set_cons_zero, List.set_cons_succ, i64_w, i32_w]
    rfl
  refine one_ (i := 1) (N := some 10) #[true, true, false] rfl rfl (by kernel_rfl) (by decide) (fun K hK => ?_)
  refine goes_ Tryd.func71 (by kernel_rfl) rfl #[] (by rfl) rfl rfl (by first | (simp; done) | (simp only [List.map_toArray, List.map_cons, List.map_nil]; rfl)) ?_
  with_reducible refine (calls_bare _).mono ?_
  rintro e w1 ⟨rfl, hb1⟩
  have hk := row_cells (blk_below hb5 (undrew hb1))
  obtain ⟨k0, k1, k2, k3, k4, k5, k6, k7⟩ := hk
  refine ⟨_, rfl, ?_⟩
  refine hK.out _ _ ⟨k0, k1, k2, k3, k4, k5, k6, k7⟩ (fun hHeld => ?_)
  clear hK K
  refine norm_ (a' := ?_) ?_ ?_
  rotate_left
  · show Act.put _ (some 10) _ = _
    simp only [Act.put, List.setIfInBounds_toArray, List.set_cons_zero, List.set_cons_succ, i64_w, i32_w]
    rfl
  refine pure_ (i := 2) (N := some 11) (v := ?_) (a' := ?_) #[true, true, true] rfl rfl (by kernel_rfl) (fun _ _ _ h => h) (Or.inl ⟨by rfl, ?_⟩) ?_ ?_
  rotate_left
  · intro w'
    go_simp
    with_reducible rfl
  rotate_left
  · simp only [Act.put, List.setIfInBounds_toArray, List.set_cons_zero, List.set_cons_succ, i64_w, i32_w]
    rfl
  refine done_ (by kernel_rfl) ?_

  refine NoPanic.normal ?_
  have hW : Below w.heap.size w (((w.alloc (.cells #[.int .i64 R, .slice HA hn hc, .slice RA rn rc, .map (some m)] 72)).alloc (.cells (rowA r) 79)).alloc (.cells (rowA s) 79) |>.alloc (.cells #[.bool false] 4)) := below_alloc (below_alloc (below_alloc (below_alloc (Below.refl _ _) _) _) _) _
  have hB1 := hW.trans ((undrew hb1).mono (by simp; omega))
  have hx0 := blk_below (blk_alloc (blk_alloc (blk_alloc (blk_new w (.cells #[.int .i64 R, .slice HA hn hc, .slice RA rn rc, .map (some m)] 72)) (.cells (rowA r) 79)) (.cells (rowA s) 79)) (.cells #[.bool false] 4)) (undrew hb1)
  have hx1 := blk_below hb5 (undrew hb1)
  have hx2 := blk_new ((w.alloc (.cells #[.int .i64 R, .slice HA hn hc, .slice RA rn rc, .map (some m)] 72)).alloc (.cells (rowA r) 79)) (.cells (rowA s) 79)
  simp only [World.size_alloc] at hx2
  have hx2 := blk_below (blk_alloc hx2 (.cells #[.bool false] 4)) (undrew hb1)
  have hx3 := blk_new (((w.alloc (.cells #[.int .i64 R, .slice HA hn hc, .slice RA rn rc, .map (some m)] 72)).alloc (.cells (rowA r) 79)).alloc (.cells (rowA s) 79)) (.cells #[.bool false] 4)
  simp only [World.size_alloc] at hx3
  have hx3 := blk_below hx3 (undrew hb1)
  have hz1 : w.heap.size + 1 + 1 + 1 + 1 ≤ w1.heap.size := by have := hb1.size; simpa using this
  clear hb5 hb1 hW
  have b0 : w1.cell? ⟨w.heap.size, 0, none⟩ = some (.int .i64 R) := blk_cell hx0 0
  have b1 : w1.cell? ⟨w.heap.size, 1, none⟩ = some (.slice HA hn hc) := blk_cell hx0 1
  have b2 : w1.cell? ⟨w.heap.size, 2, none⟩ = some (.slice RA rn rc) := blk_cell hx0 2
  have b3 : w1.cell? ⟨w.heap.size, 3, none⟩ = some (.map (some m)) := blk_cell hx0 3
  obtain ⟨s0, s1, s2, s3, s4, s5, s6, s7⟩ := row_cells hx2
  have HB1 := Lib.hid hB1; clear hB1
  have HX3 := Lib.hid hx3; clear hx3 hx0 hx1 hx2
  clear c0 c1 c2 c3 c4 c5 c6 c7 he
  gi_wp2_with (refine ⟨trivial, ?_⟩; gi_at_call 60; refine (callsIn_wide.2 (calls_turns R HA hn hc RA rn rc m r s a _)).mono ?_; rintro e w2 ⟨rfl, hT, hb2, hs2⟩)
  have HR0 := Lib.hid (blk_below HX3.out hb2)
  have HB2 := Lib.hid (HB1.out.trans (hb2.mono (below_size HB1.out)))
  have hlt : w.heap.size + 1 + 1 + 1 < w2.heap.size := by omega
  refine rangeFunc_skip (by omega) (gf := 82) (lb := #[.pointer (some ⟨w1.heap.size, 0, none⟩), .pointer (some ⟨w1.heap.size + 3, 0, none⟩), .pointer (some ⟨w1.heap.size + 1, 0, none⟩), .pointer (some ⟨w1.heap.size + 2, 0, none⟩)]) rfl (enters_of Tryd.func82 (by kernel_rfl) rfl)
    (turns_stops 2 w1.heap.size R hR HA hn hc RA rn rc m r s a al hal w2 (by omega) hT) (KeepG.keeps (by omega)) (fun _ => rfl)
    (fun pre W => pre = [] ∧ W.heap[w.heap.size + 1 + 1 + 1]? = some (.cells #[.bool false] 4 (0, 0)) ∧ Below w.heap.size w W)
    (fun c pre W => c = .ret ∧ pre ≠ [] ∧ W.heap[w.heap.size + 1 + 1 + 1]? = some (.cells #[.bool true] 4 (0, 0)) ∧ Below w.heap.size w W)
    (fun s A B row hs hg hr => ⟨hs.1, turn_cells hs.2.1 hg hr, turn_below hs.2.2 (Nat.le_refl _) (by omega) hg hr⟩)
    (fun c s A B row hs hg hr => ⟨hs.1, hs.2.1, turn_cells hs.2.2.1 hg hr, turn_below hs.2.2.2 (Nat.le_refl _) (by omega) hg hr⟩)
    ⟨rfl, HR0.out, HB2.out⟩ ?body ?done ?stop
  case body =>
    rintro l pre x W ⟨rfl, hc, hB⟩ _
    have hc0 := blk_cell hc 0
    have hf0 := blk_frozen hc 0
    have HC := Lib.hid hc; clear hc
    have HB := Lib.hid hB; clear hB
    gi_wp2
    exact ⟨(KeepsOthers.setCell _ _ _).from _, rfl, by simp, blk_set HC.out 0 _, HB.out.setCell (by simp; omega) _⟩
  case done =>
    rintro D xs W hD hx ⟨rfl, hc, hB⟩ hK
    have hc0 := blk_cell hc 0
    have hf0 := blk_frozen hc 0
    have HC := Lib.hid hc; clear hc
    have HB := Lib.hid hB; clear hB
    gi_wp2
    have hK2 := (KeepsOthers.setCell W ⟨w.heap.size + 1 + 1 + 1, 0, none⟩ (.bool false)).same D _ hK rfl
    have hC2 := blk_set HC.out 0 (.bool false)
    refine ⟨by simp, .inl ⟨_, _, rfl, run_takeDeferred hK2, ?_⟩⟩
    refine ⟨_, results_cell_one rfl (v := .bool false) rfl (blk_cell (turn_cells hC2 (grownBy_putObj' _ D (.deferred none)) (b := 0) (fun r e => by cases e; exact ⟨Nat.zero_le _, _, hK2, rfl⟩)) 0) Tryd.underlying4 rfl, ?_, ?_⟩
    · rw [← hx]; rfl
    · exact (HB.out.setCell (by simp; omega) _).trans (belowK_b (w := w) (Nat.le_refl _) _ D _ _ (by have := below_size HB2.out; omega) hK2 rfl rfl)
  case stop =>
    rintro D c pre W hD hp ⟨rfl, hne, hc, hB⟩ hK
    have HC := Lib.hid hc; clear hc
    have HB := Lib.hid hB; clear hB
    gi_wp2
    refine ⟨by simp, .inl ⟨_, _, rfl, run_takeDeferred hK, ?_⟩⟩
    refine ⟨_, results_cell_one rfl (v := .bool true) rfl (blk_cell (turn_cells HC.out (grownBy_putObj' _ D (.deferred none)) (b := 0) (fun r e => by cases e; exact ⟨Nat.zero_le _, _, hK, rfl⟩)) 0) Tryd.underlying4 rfl, ?_, ?_⟩
    · cases hq : turnsL R r s al with
      | nil => rw [hq] at hp; exact absurd (List.prefix_nil.1 hp) hne
      | cons _ _ => rfl
    · exact HB.out.trans (belowK_b (w := w) (Nat.le_refl _) _ D _ _ (by have := below_size HB2.out; omega) hK rfl rfl)
end Go.Proofs.YtdllacjkacmghaaDoorD
