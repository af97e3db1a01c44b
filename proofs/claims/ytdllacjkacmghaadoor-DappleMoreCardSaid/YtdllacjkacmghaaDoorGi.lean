/- The walks of package dapple: the new row. The walks of package dapple: the new row, as it is asked. -/
import Derived.Test.YtdllacjkacmghaaDoorGh
import Derived.Deep.RegionLawGrows
import Derived.Laws.EntriesVeiled
namespace Go.Proofs.YtdllacjkacmghaaDoorD
open Go.RowKit Go.Proofs.YtdllacjkacmghaaDoorW.PrintWords Go.Proofs.YtdllacjkacmghaaDoorW.PrintLast Go.Proofs.YtdllacjkacmghaaDoorW.PrintMore Go.Proofs.YtdllacjkacmghaaDoorH
set_option linter.unusedVariables false
set_option linter.unusedSimpArgs false

/-- the first free row that begins with some sizes -/
def newFrom (n : Nat) (l : List (List Int)) : Nat → List Int → Option (List Int)
  | 0, out => if (whoseL n l (out.map setOf)).isEmpty then some out else none
  | d + 1, out => (List.range 4).findSome? fun (q : Nat) => newFrom n l d (out ++ [(q : Int)])
def newD (R : Int) (l : List (List Int)) : List Int × Int := if validB R l then (match newFrom R.toNat l R.toNat [] with | some o => (o, 0) | none => ([], 4)) else ([], 70)

theorem findSome_all {α : Type} {f : Nat → Option α} {n : Nat} (h : ∀ q, q < n → f q = none) : (List.range n).findSome? f = none := by
  rw [List.findSome?_eq_none_iff]
  intro q hq
  exact h q (List.mem_range.1 hq)
theorem findSome_at {α : Type} {f : Nat → Option α} {n q : Nat} {o : α} (hq : q < n) (h : ∀ p, p < q → f p = none) (ho : f q = some o) : (List.range n).findSome? f = some o := by
  have : List.range n = List.range q ++ (List.range (n - q)).map (q + ·) := by rw [← List.range_add]; congr 1; omega
  rw [this, List.findSome?_append, findSome_all h, Option.none_or]
  obtain ⟨e, he⟩ : ∃ e, n - q = e + 1 := ⟨n - q - 1, by omega⟩
  rw [he, List.range_succ_eq_map]
  simp [ho]
theorem rowA_last (l t : List Int) (v : Int) (hl : l.length < 8) (ht : t.length ≤ 1) : (rowA (l ++ t)).setIfInBounds l.length (.int .i64 v) = rowA (l ++ [v]) := by
  apply Array.ext_getElem?
  intro i
  rw [Array.getElem?_setIfInBounds]
  have hsz : ∀ r : List Int, (rowA r).size = 8 := fun r => rfl
  rw [hsz]
  by_cases hi : l.length = i
  · subst hi
    rw [if_pos rfl, if_pos hl, rowA_get _ _ hl]
    simp [el]
  · rw [if_neg hi]
    by_cases h8 : i < 8
    · rw [rowA_get _ _ h8, rowA_get _ _ h8]
      congr 2
      unfold el
      rcases Nat.lt_or_ge i l.length with h | h
      · simp [List.getElem?_append_left h]
      · have h1 : (l ++ t)[i]? = none := List.getElem?_eq_none (by simp; omega)
        have h2 : (l ++ [v])[i]? = none := List.getElem?_eq_none (by simp; omega)
        rw [List.getD_eq_getElem?_getD, List.getD_eq_getElem?_getD, h1, h2]
    · rw [Array.getElem?_eq_none (by rw [hsz]; omega), Array.getElem?_eq_none (by rw [hsz]; omega)]

/-- what the closure has captured -/
structure FromBox (w : World) (n : Nat) (HA : Option Addr) (hn hc : Nat) (RA : Option Addr) (rc m : Nat) (l : List (List Int)) (gx gb gf : Nat) : Prop where
  glob : Glob w
  row : kRow.C w RA l.length l
  api : w.heap[gx]? = some (.cells #[.int .i64 n, .slice HA hn hc] 24 (0, 0))
  book : w.heap[gb]? = some (.cells #[.int .i64 n, .slice HA hn hc, .slice RA l.length rc, .map (some m)] 72 (0, 0))
  fn : w.heap[gf]? = some (.cells #[.func (.func 70) #[] #[.pointer (some ⟨gx, 0, none⟩), .pointer (some ⟨gb, 0, none⟩), .pointer (some ⟨gf, 0, none⟩)]] 87 (0, 0))
theorem FromBox.below {w w1 : World} {n : Nat} {HA : Option Addr} {hn hc : Nat} {RA : Option Addr} {rc m : Nat} {l : List (List Int)} {gx gb gf : Nat} (h : FromBox w n HA hn hc RA rc m l gx gb gf) (hb : Below w.heap.size w w1) : FromBox w1 n HA hn hc RA rc m l gx gb gf :=
  ⟨h.glob.below hb, Kd.C_below h.row hb, blk_below h.api hb, blk_below h.book hb, blk_below h.fn hb⟩

/-- what the closure hands back -/
def FromPost (base : Nat) (r : Option (List Int)) (e : Ending) (w' : World) : Prop :=
  match r with
  | some o => ∃ v, e = .returned (.tuple #[v, .bool true]) ∧ Kd.V (Kd.int .i64) 3 w' base (fun k => base ≤ k) v o
  | none => ∃ v, e = .returned (.tuple #[v, .bool false])

set_option maxRecDepth 100000 in
set_option maxHeartbeats 2000000 in
theorem calls_from (n : Nat) (hn8 : n ≤ 8) (HA : Option Addr) (hn hc : Nat) (RA : Option Addr) (rc m : Nat) (l : List (List Int)) (h6 : l.length ≤ 6) (h8 : Rows8 l) (gx gb gf base : Nat) : ∀ (d : Nat) (out : List Int) (hd : out.length + d = n) (A : Option Addr) (c : Nat) (w : World)
    (hF : FromBox w n HA hn hc RA rc m l gx gb gf) (hA : A = none → out.length = 0) (hV : Kd.V (Kd.int .i64) 3 w base (fun k => base ≤ k) (.slice A out.length c) out) (hbase : base ≤ w.heap.size),
    Calls Tryd.prog 70 #[.slice A out.length c, .agg (rowA (out.map setOf)), .pointer (some ⟨gx, 0, none⟩), .pointer (some ⟨gb, 0, none⟩), .pointer (some ⟨gf, 0, none⟩)] w fun e w' => Below w.heap.size w w' ∧
      FromPost base (newFrom n l d out) e w'
  | 0, out, hd, A, c, w, hF, hA, hV, hbase => by
    obtain ⟨rr, hrr⟩ : ∃ rr, out.map setOf = rr := ⟨_, rfl⟩
    have hFW := hF.below (below_alloc (Below.refl _ _) (.cells (rowA rr) 79))
    have HB := Lib.hid (below_alloc (Below.refl _ _) (.cells (rowA rr) 79) : Below w.heap.size w _)
    have hY := blk_new w (.cells (rowA rr) 79)
    have hnf : newFrom n l 0 out = (if (whoseL n l rr).isEmpty then some out else none) := by rw [← hrr]; rfl
    rw [hnf, hrr]
    have HV := Lib.hid hV
    have hkn : ((out.length : Int) == (n : Int)) = true := by simp; omega
    have cx0 : (w.alloc (.cells (rowA rr) 79)).cell? ⟨gx, 0, none⟩ = some (.int .i64 n) := blk_cell hFW.api 0
    obtain ⟨d0, d1, d2, d3⟩ : (w.alloc (.cells (rowA rr) 79)).cell? ⟨gb, 0, none⟩ = some (.int .i64 n) ∧ (w.alloc (.cells (rowA rr) 79)).cell? ⟨gb, 1, none⟩ = some (.slice HA hn hc) ∧ (w.alloc (.cells (rowA rr) 79)).cell? ⟨gb, 2, none⟩ = some (.slice RA l.length rc) ∧ (w.alloc (.cells (rowA rr) 79)).cell? ⟨gb, 3, none⟩ = some (.map (some m)) := ⟨blk_cell hFW.book 0, blk_cell hFW.book 1, blk_cell hFW.book 2, blk_cell hFW.book 3⟩
    obtain ⟨s0, s1, s2, s3, s4, s5, s6, s7⟩ := row_cells hY
    have HFW := Lib.hid hFW
    clear hFW hF hV hrr hnf hY
    have hil := ints_length (whoseL n l rr)
    cases hwe : (whoseL n l rr).isEmpty with
    | true =>
      have hl0 : ((ints (whoseL n l rr)).length : Int) == 0 := by rw [hil]; simpa using hwe
      have HL0 := Lib.hid hl0; clear hl0 hil hwe
      simp only [if_true]
      go_enter Tryd.func70, Tryd.ntmps70
      go_wp2_with (go_at_call 67; refine (calls_whose n hn8 HA hn hc RA rc m l h6 rr _ HFW.out.glob HFW.out.row h8).mono ?_; rintro e w1 ⟨v, rfl, hvv, hb⟩; obtain ⟨A1, c1, rfl⟩ := Kd.V_slice hvv)
      exact bodyPost_ret (results_tmp2 rfl _ _ _) rfl ⟨HB.out.trans (hb.mono (below_size HB.out)), _, by have := HL0.out; simp at this; simp [this], Kd.V_below (Kd.V_alloc HV.out _) hb⟩
    | false =>
      have hl0 : (((ints (whoseL n l rr)).length : Int) == 0) = false := by
        rw [hil]
        rw [List.isEmpty_eq_false_iff] at hwe
        have := List.length_pos_iff.2 hwe
        simp; omega
      have HL0 := Lib.hid hl0; clear hl0 hil hwe
      simp only [Bool.false_eq_true, if_false]
      go_enter Tryd.func70, Tryd.ntmps70
      go_wp2_with (go_at_call 67; refine (calls_whose n hn8 HA hn hc RA rc m l h6 rr _ HFW.out.glob HFW.out.row h8).mono ?_; rintro e w1 ⟨v, rfl, hvv, hb⟩; obtain ⟨A1, c1, rfl⟩ := Kd.V_slice hvv)
      exact bodyPost_ret (results_tmp2 rfl _ _ _) rfl ⟨HB.out.trans (hb.mono (below_size HB.out)), _, by rw [← HL0.out]; rfl⟩
  | d + 1, out, hd, A, c, w, hF, hA, hV, hbase => by
    have HB := Lib.hid (below_alloc (Below.refl _ _) (.cells (rowA (out.map setOf)) 79) : Below w.heap.size w _)
    have HFW := Lib.hid hF
    have hY := blk_new w (.cells (rowA (out.map setOf)) 79)
    have HV := Lib.hid hV
    have HBASE := Lib.hid hbase
    have hkn : ((out.length : Int) == (n : Int)) = false := by simp; omega
    have cx0 : (w.alloc (.cells (rowA (out.map setOf)) 79)).cell? ⟨gx, 0, none⟩ = some (.int .i64 n) := blk_cell (blk_alloc hF.api _) 0
    have ih := fun out hd => calls_from n hn8 HA hn hc RA rc m l h6 h8 gx gb gf base d out hd
    have IH := Lib.hid ih; clear ih
    have hol : out.length < 8 := by omega
    have HAN := Lib.hid hA
    have HY := Lib.hid (show ∃ t : List Int, t.length ≤ 1 ∧ (w.alloc (.cells (rowA (out.map setOf)) 79)).heap[w.heap.size]? = some (.cells (rowA (out.map setOf ++ t)) 79 (0, 0)) from ⟨[], by simp, by rw [List.append_nil]; exact hY⟩)
    have hnf : newFrom n l (d + 1) out = (List.range 4).findSome? fun (q : Nat) => newFrom n l d (out ++ [(q : Int)]) := rfl
    have HNF := Lib.hid hnf
    clear hY hF hV hbase hA hnf
    obtain ⟨rr, hrr⟩ : ∃ rr, out.map setOf = rr := ⟨_, rfl⟩
    have hrl : rr.length = out.length := by rw [← hrr]; simp
    have HRL := Lib.hid hrl
    have HRR := Lib.hid hrr
    rw [hrr] at HB HY cx0 ⊢
    clear hrl hrr
    go_enter Tryd.func70, Tryd.ntmps70
    go_wp2_with fail
    go_loopw [25] (fun v wr => ∃ q : Nat, q ≤ 4 ∧ v = .int .i64 q ∧ Hid (∀ p : Nat, p < q → newFrom n l d (out ++ [(p : Int)]) = none) ∧ Hid (∃ t : List Int, t.length ≤ 1 ∧ wr.heap[w.heap.size]? = some (.cells (rowA (rr ++ t)) 79 (0, 0))) ∧ Hid (Below w.heap.size w wr)) (fun v _ => 4 - (intOf v).toNat)
    case atStart => exact ⟨0, by omega, rfl, Lib.hid (fun p h => absurd h (Nat.not_lt_zero _)), HY, HB⟩
    case round =>
      clear HB HY cx0
      obtain ⟨q, hq, rfl, HQ, HY, HB⟩ := hrel
      by_cases hlt : q < 4
      · obtain ⟨t, ht, hy⟩ := HY.out
        have hcx := blk_cell hy out.length
        have hfx := blk_frozen hy out.length
        rw [rowA_get _ _ hol] at hcx
        have hpw : wrap64 ((2 : Int) ^ q) = (2 : Int) ^ q := by
          obtain rfl | rfl | rfl | rfl : q = 0 ∨ q = 1 ∨ q = 2 ∨ q = 3 := by omega
          all_goals simp [wrap64]
        have HYY := Lib.hid hy; clear hy
        have hol2 : (out.length : Int) < 8 := by omega
        go_wp2_with fail
        rw [hpw]
        generalize hWd : wr.setCell ⟨w.heap.size, out.length, none⟩ (.int .i64 (2 ^ q)) = W
        obtain ⟨rq, hrq⟩ : ∃ rq, rr ++ [(2 : Int) ^ q] = rq := ⟨_, rfl⟩
        have hset := blk_set HYY.out out.length (.int .i64 (2 ^ q))
        rw [hWd, ← HRL.out, rowA_last rr t (2 ^ q) (by rw [HRL.out]; exact hol) ht, hrq] at hset
        have HRQ := Lib.hid hset; clear hset
        have hwB : Below w.heap.size w W := by rw [← hWd]; exact HB.out.setCell (Nat.le_refl _) _
        have HWB := Lib.hid hwB; clear hwB
        have HFN := Lib.hid (HFW.out.below HWB.out).fn
        clear hcx hfx HYY hWd hpw HB HY
        have hrq2 : (out ++ [(q : Int)]).map setOf = rq := by rw [← hrq, ← HRR.out]; simp [setOf]
        have HRQ2 := Lib.hid hrq2; have HRQE := Lib.hid hrq; clear hrq hrq2
        obtain ⟨i0, hinf, hz0, hz1, hz2⟩ := info_parts infoInt
        have hsz0 : base ≤ W.heap.size := Nat.le_trans HBASE.out (below_size HWB.out)
        have HSZ0 := Lib.hid hsz0; clear hsz0
        have hvW := Kd.V_below HV.out HWB.out
        have HVW := Lib.hid hvW; clear hvW
        have HOLD := Lib.hid (show ∀ b, A = some b → ∀ (j : Nat) (u : Value), (out.map (Value.int .i64))[j]? = some u → (W.drew.alloc (.cells #[.int .i64 q] 3)).cell? (b.add j) = some u from fun b hb j u hu => by
          have hC := (Kd.V_reads' HVW.out).2.2
          rw [hb] at hC
          have hju : j < out.length := by have := (List.getElem?_eq_some_iff.1 hu).1; simpa using this
          obtain ⟨ad5, e5, h5⟩ := at_nat hC j hju
          obtain rfl := Option.some.inj e5
          have : u = .int .i64 (rd out j) := by
            have h7 := hu
            rw [List.getElem?_map, List.getElem?_eq_getElem hju] at h7
            rw [← Option.some.inj h7]
            simp [rd, hju]
          rw [this]
          exact pw_cell_below (below_alloc (Below.refl _ _).drew _) h5)
        have hlen1 : (out ++ [(q : Int)]).length = out.length + 1 := by simp
        have HPRE0 := Lib.hid (show ∀ (g3 cap3 : Nat) (w3 : World), w3.ownsRow (W.drew.alloc (.cells #[.int .i64 q] 3)).heap.size 3 1 (.slice (some ⟨g3, 0, none⟩) (out.length + 1) cap3) (out.length + 1) (out.map (Value.int .i64) ++ [.int .i64 q]) → (W.drew.alloc (.cells #[.int .i64 q] 3)).grownBy w3 none → Below w.heap.size w w3 ∧ Kd.V (Kd.int .i64) 3 w3 base (fun k => base ≤ k) (.slice (some ⟨g3, 0, none⟩) (out.length + 1) cap3) (out ++ [(q : Int)]) from fun g3 cap3 w3 hown hg3 => by
          have hz := below_size HWB.out
          refine ⟨(HWB.out.drew.alloc (show w.heap.size ≤ W.drew.heap.size from hz) _).grown hg3 (by have := below_size HWB.out; simp; omega) (fun k e => by cases e), ?_⟩
          have h1 : (Kd.int .i64).R 3 w3 (W.drew.alloc (.cells #[.int .i64 q] 3)).heap.size (fun k => base ≤ k) (.slice (some ⟨g3, 0, none⟩) (out.length + 1) cap3) (out ++ [(q : Int)]) := Kd.R_of_own (by rw [hlen1, encs_map, List.map_append]; exact hown) (fun k hk => by have := own_base hown k hk; have := HSZ0.out; simp at *; omega)
          exact Kd.R_V h1)
        have hfn0 := Tryd.func70
        have hoc : out.length ≤ c := (Kd.V_reads' HV.out).2.1
        have hfc : ∀ W' : World, W'.heap[gf]? = some (.cells #[.func (.func 70) #[] #[.pointer (some ⟨gx, 0, none⟩), .pointer (some ⟨gb, 0, none⟩), .pointer (some ⟨gf, 0, none⟩)]] 87 (0, 0)) → W'.cell? ⟨gf, 0, none⟩ = some (.func (.func 70) #[] #[.pointer (some ⟨gx, 0, none⟩), .pointer (some ⟨gb, 0, none⟩), .pointer (some ⟨gf, 0, none⟩)]) := fun W' h => blk_cell h 0
        have hrc : ∀ W' : World, W'.heap[w.heap.size]? = some (.cells (rowA rq) 79 (0, 0)) → W'.cell? ⟨w.heap.size, 0, none⟩ = some (.int .i64 (el rq 0)) ∧ W'.cell? ⟨w.heap.size, 1, none⟩ = some (.int .i64 (el rq 1)) ∧ W'.cell? ⟨w.heap.size, 2, none⟩ = some (.int .i64 (el rq 2)) ∧ W'.cell? ⟨w.heap.size, 3, none⟩ = some (.int .i64 (el rq 3)) ∧ W'.cell? ⟨w.heap.size, 4, none⟩ = some (.int .i64 (el rq 4)) ∧ W'.cell? ⟨w.heap.size, 5, none⟩ = some (.int .i64 (el rq 5)) ∧ W'.cell? ⟨w.heap.size, 6, none⟩ = some (.int .i64 (el rq 6)) ∧ W'.cell? ⟨w.heap.size, 7, none⟩ = some (.int .i64 (el rq 7)) := fun W' h => row_cells h
        have hr0 := fun W' h => (hrc W' h).1
        have hr1 := fun W' h => (hrc W' h).2.1
        have hr2 := fun W' h => (hrc W' h).2.2.1
        have hr3 := fun W' h => (hrc W' h).2.2.2.1
        have hr4 := fun W' h => (hrc W' h).2.2.2.2.1
        have hr5 := fun W' h => (hrc W' h).2.2.2.2.2.1
        have hr6 := fun W' h => (hrc W' h).2.2.2.2.2.2.1
        have hr7 := fun W' h => (hrc W' h).2.2.2.2.2.2.2
        clear hrc
        cases hnq : newFrom n l d (out ++ [(q : Int)]) with
        | some o =>
          have hres : newFrom n l (d + 1) out = some o := by rw [HNF.out]; exact findSome_at hlt HQ.out hnq
          have HRES := Lib.hid hres; clear hres
          have HPRE := Lib.hid (show ∀ (g3 cap3 : Nat) (w3 : World), w3.ownsRow (W.drew.alloc (.cells #[.int .i64 q] 3)).heap.size 3 1 (.slice (some ⟨g3, 0, none⟩) (out.length + 1) cap3) (out.length + 1) (out.map (Value.int .i64) ++ [.int .i64 q]) → (W.drew.alloc (.cells #[.int .i64 q] 3)).grownBy w3 none →
              Calls Tryd.prog 70 #[.slice (some ⟨g3, 0, none⟩) (out.length + 1) cap3, .agg (rowA rq), .pointer (some ⟨gx, 0, none⟩), .pointer (some ⟨gb, 0, none⟩), .pointer (some ⟨gf, 0, none⟩)] w3 fun e w' => Below w.heap.size w w' ∧ w'.heap[w.heap.size]? = some (.cells (rowA rq) 79 (0, 0)) ∧ ∃ v, e = .returned (.tuple #[v, .bool true]) ∧ Kd.V (Kd.int .i64) 3 w' base (fun k => base ≤ k) v o from fun g3 cap3 w3 hown hg3 => by
            obtain ⟨hbw, hv3⟩ := HPRE0.out g3 cap3 w3 hown hg3
            have hc := IH.out (out ++ [(q : Int)]) (by rw [hlen1]; omega) (some ⟨g3, 0, none⟩) cap3 w3 (HFW.out.below hbw) (fun e => by cases e) (by rw [hlen1]; exact hv3) (Nat.le_trans HBASE.out (below_size hbw))
            rw [hlen1, HRQ2.out, hnq] at hc
            exact hc.mono fun e w' h => ⟨hbw.trans (h.1.mono (below_size hbw)), blk_below (blk_grown (blk_alloc (w := W.drew) HRQ.out _) hg3 (by simp)) h.1, h.2⟩)
          clear hnq
          refine start_ (n := 15) (S := fun w' => w'.heap[gf]? = some (.cells #[.func (.func 70) #[] #[.pointer (some ⟨gx, 0, none⟩), .pointer (some ⟨gb, 0, none⟩), .pointer (some ⟨gf, 0, none⟩)]] 87 (0, 0)) ∧ w'.heap[w.heap.size]? = some (.cells (rowA rq) 79 (0, 0))) (ds := [9]) #[false, false, false, false, false, false, false, false, false, false, false, false, false, false, false] (by kernel_rfl) rfl rfl ⟨HFN.out, HRQ.out⟩ (fun hHeld => ?_)
          refine pure_ (i := 1) (N := some 34) (v := ?_) (a' := ?_) #[false, true, false, false, false, false, false, false, false, false, false, false, false, false, false] rfl rfl (by kernel_rfl) (fun _ _ _ h => h) (Or.inl ⟨by rfl, ?_⟩) ?_ ?_
          rotate_left
          · intro w'
            go_simp
            with_reducible rfl
          rotate_left
          · simp only [Act.put, List.setIfInBounds_toArray, List.set_cons_zero, List.set_cons_succ, i64_w, i32_w]
            rfl
          refine pure_ (i := 2) (N := some 35) (v := ?_) (a' := ?_) #[false, true, true, false, false, false, false, false, false, false, false, false, false, false, false] rfl rfl (by kernel_rfl) (fun _ _ _ h => h) (Or.inl ⟨by rfl, ?_⟩) ?_ ?_
          rotate_left
          · intro w'
            go_simp
            with_reducible rfl
          rotate_left
          · simp only [Act.put, List.setIfInBounds_toArray, List.set_cons_zero, List.set_cons_succ, i64_w, i32_w]
            rfl
          refine pure_ (i := 3) (N := some 36) (v := ?_) (a' := ?_) #[false, true, true, true, false, false, false, false, false, false, false, false, false, false, false] rfl rfl (by kernel_rfl) (fun _ _ _ h => h) (Or.inl ⟨by rfl, ?_⟩) ?_ ?_
          rotate_left
          · intro w'
            go_simp
            with_reducible rfl
          rotate_left
          · simp only [Act.put, List.setIfInBounds_toArray, List.set_cons_zero, List.set_cons_succ, i64_w, i32_w]
            rfl
          refine pure_ (i := 4) (N := some 37) (v := ?_) (a' := ?_) #[false, true, true, true, true, false, false, false, false, false, false, false, false, false, false] rfl rfl (by kernel_rfl) (fun _ _ _ h => h) (Or.inl ⟨by rfl, ?_⟩) ?_ ?_
          rotate_left
          · intro w'
            go_simp
            with_reducible rfl
          rotate_left
          · simp only [Act.put, List.setIfInBounds_toArray, List.set_cons_zero, List.set_cons_succ, i64_w, i32_w]
            rfl
          refine pure_ (i := 5) (N := some 38) (v := ?_) (a' := ?_) #[false, true, true, true, true, true, false, false, false, false, false, false, false, false, false] rfl rfl (by kernel_rfl) (fun _ _ _ h => h) (Or.inl ⟨by rfl, ?_⟩) ?_ ?_
          rotate_left
          · intro w'
            go_simp
            with_reducible rfl
          rotate_left
          · simp only [Act.put, List.setIfInBounds_toArray, List.set_cons_zero, List.set_cons_succ, i64_w, i32_w]
            rfl
          refine take_ (i := 0) (N := some 33) (v := ?_) (a' := ?_) #[true, true, true, true, true, true, false, false, false, false, false, false, false, false, false] rfl rfl (by kernel_rfl) (fun _ _ _ h => h) (Or.inl ⟨by rfl, ?_⟩) hHeld ?_ ?_
          rotate_left
          · rintro w' ⟨s0, s1⟩
            go_simp
            with_reducible rfl
          rotate_left
          · simp only [Act.put, List.setIfInBounds_toArray, List.set_cons_zero, List.set_cons_succ, i64_w, i32_w]
            rfl
          refine take_ (i := 8) (N := some 41) (v := ?_) (a' := ?_) #[true, true, true, true, true, true, false, false, true, false, false, false, false, false, false] rfl rfl (by kernel_rfl) (fun _ _ _ h => h) (Or.inl ⟨by rfl, ?_⟩) hHeld ?_ ?_
          rotate_left
          · rintro w' ⟨s0, s1⟩
            go_simp
            with_reducible rfl
          rotate_left
          · simp only [Act.put, List.setIfInBounds_toArray, List.set_cons_zero, List.set_cons_succ, i64_w, i32_w]
            rfl
          refine one_ (i := 6) (N := some 39) #[true, true, true, true, true, true, true, false, true, false, false, false, false, false, false] rfl rfl (by kernel_rfl) (by decide) (fun K hK => ?_)
          refine value_ (w1 := ?_) (v := ?_) (by rfl) rfl ?_ ?_
          rotate_left 2
          · go_simp
            constructor
            · rfl
            · rfl
          refine hK.out _ _ ⟨blk_alloc (w := W.drew) HFN.out _, blk_alloc (w := W.drew) HRQ.out _⟩ (fun hHeld => ?_)
          clear hK K
          refine norm_ (a' := ?_) ?_ ?_
          rotate_left
          · show Act.put _ (some 39) _ = _
            simp only [Act.put, List.setIfInBounds_toArray, List.set_cons_zero, List.set_cons_succ, i64_w, i32_w]
            rfl
          refine one_ (i := 7) (N := some 40) #[true, true, true, true, true, true, true, true, true, false, false, false, false, false, false] rfl rfl (by kernel_rfl) (by decide) (fun K hK => ?_)
          refine step_append_grows rfl (.tmp 37) (.tmp 39) 26 rfl 3 i0 (.int .i64 0) 1 8 Tryd.underlying26 hinf hz0 hz1 hz2 rfl (by decide) A out.length out.length (out.map (Value.int .i64)) (by rfl) (fun e => ⟨HAN.out e, HAN.out e⟩) (by simp) HOLD.out ⟨W.drew.heap.size, 0, none⟩ 1 1 [.int .i64 q] (by rfl) rfl (cell_one_new _ _ _) (by simp [Value.oneCell']) (by omega) (by simp [maxLen]; omega) (by omega) ?_
          intro v3 w3 hown hg3
          obtain ⟨g3, cap3, rfl⟩ := ownsRow_succ hown
          refine hK.out _ _ ⟨blk_grown (blk_alloc (w := W.drew) HFN.out _) hg3 (by simp), blk_grown (blk_alloc (w := W.drew) HRQ.out _) hg3 (by simp)⟩ (fun hHeld => ?_)
          clear hK K
          refine norm_ (a' := ?_) ?_ ?_
          rotate_left
          · show Act.put _ (some 40) _ = _
            simp only [Act.put, List.setIfInBounds_toArray, List.set_cons_zero, List.set_cons_succ, i64_w, i32_w]
            rfl
          refine last_ (i := 9) (N := some 42) #[true, true, true, true, true, true, true, true, true, true, false, false, false, false, false] rfl rfl (by kernel_rfl) (by decide) (fun K hK => ?_)
          have hpre := HPRE.out g3 cap3 w3 hown hg3
          refine goesV_ hfn0 (by kernel_rfl) rfl #[.slice (some ⟨g3, 0, none⟩) (out.length + 1) cap3, .agg (rowA rq), .pointer (some ⟨gx, 0, none⟩), .pointer (some ⟨gb, 0, none⟩), .pointer (some ⟨gf, 0, none⟩)] (by rfl) rfl rfl rfl (by (try simp only [Array.empty_append, Array.append_empty, List.map_toArray, List.map_cons, List.map_nil, List.append_toArray, List.nil_append, List.append_nil, List.cons_append]); rfl) ?_
          with_reducible refine (hpre).mono ?_
          rintro e w4 ⟨hb4, hrq4, v4, rfl, hV4⟩
          refine ⟨_, rfl, ?_⟩
          refine hK.out _ _ ?_
          clear hK K
          refine norm_ (a' := ?_) ?_ ?_
          rotate_left
          · show Act.put _ (some 42) _ = _
            simp only [Act.put, List.setIfInBounds_toArray, List.set_cons_zero, List.set_cons_succ, i64_w, i32_w]
            rfl
          refine pure_ (i := 10) (N := some 32) (v := ?_) (a' := ?_) #[true, true, true, true, true, true, true, true, true, true, true, false, false, false, false] rfl rfl (by kernel_rfl) (fun _ _ _ h => h) (Or.inl ⟨by rfl, ?_⟩) ?_ ?_
          rotate_left
          · intro w'
            go_simp
            with_reducible rfl
          rotate_left
          · simp only [Act.put, List.setIfInBounds_toArray, List.set_cons_zero, List.set_cons_succ, i64_w, i32_w]
            rfl
          refine pure_ (i := 11) (N := some 43) (v := ?_) (a' := ?_) #[true, true, true, true, true, true, true, true, true, true, true, true, false, false, false] rfl rfl (by kernel_rfl) (fun _ _ _ h => h) (Or.inl ⟨by rfl, ?_⟩) ?_ ?_
          rotate_left
          · intro w'
            go_simp
            with_reducible rfl
          rotate_left
          · simp only [Act.put, List.setIfInBounds_toArray, List.set_cons_zero, List.set_cons_succ, i64_w, i32_w]
            rfl
          refine pure_ (i := 12) (N := some 44) (v := ?_) (a' := ?_) #[true, true, true, true, true, true, true, true, true, true, true, true, true, false, false] rfl rfl (by kernel_rfl) (fun _ _ _ h => h) (Or.inl ⟨by rfl, ?_⟩) ?_ ?_
          rotate_left
          · intro w'
            go_simp
            with_reducible rfl
          rotate_left
          · simp only [Act.put, List.setIfInBounds_toArray, List.set_cons_zero, List.set_cons_succ, i64_w, i32_w]
            rfl
          refine pure_ (i := 13) (N := some 11) (v := ?_) (a' := ?_) #[true, true, true, true, true, true, true, true, true, true, true, true, true, true, false] rfl rfl (by kernel_rfl) (fun _ _ _ h => h) (Or.inl ⟨by rfl, ?_⟩) ?_ ?_
          rotate_left
          · intro w'
            go_simp
            with_reducible rfl
          rotate_left
          · simp only [Act.put, List.setIfInBounds_toArray, List.set_cons_zero, List.set_cons_succ, i64_w, i32_w]
            rfl
          refine pure_ (i := 14) (N := some 12) (v := ?_) (a' := ?_) #[true, true, true, true, true, true, true, true, true, true, true, true, true, true, true] rfl rfl (by kernel_rfl) (fun _ _ _ h => h) (Or.inl ⟨by rfl, ?_⟩) ?_ ?_
          rotate_left
          · intro w'
            go_simp
            with_reducible rfl
          rotate_left
          · simp only [Act.put, List.setIfInBounds_toArray, List.set_cons_zero, List.set_cons_succ, i64_w, i32_w]
            rfl
          refine done_ (by kernel_rfl) ?_

          go_wp2_with fail
          rw [HRES.out]
          exact bodyPost_ret (results_tmp2 rfl _ _ _) rfl ⟨hb4, _, rfl, hV4⟩
        | none =>
          have hqs : ∀ p : Nat, p < q + 1 → newFrom n l d (out ++ [(p : Int)]) = none := fun p hp => by
            by_cases e : p = q
            · subst e; exact hnq
            · exact HQ.out p (by omega)
          have HQS := Lib.hid hqs; clear hqs
          have HPRE := Lib.hid (show ∀ (g3 cap3 : Nat) (w3 : World), w3.ownsRow (W.drew.alloc (.cells #[.int .i64 q] 3)).heap.size 3 1 (.slice (some ⟨g3, 0, none⟩) (out.length + 1) cap3) (out.length + 1) (out.map (Value.int .i64) ++ [.int .i64 q]) → (W.drew.alloc (.cells #[.int .i64 q] 3)).grownBy w3 none →
              Calls Tryd.prog 70 #[.slice (some ⟨g3, 0, none⟩) (out.length + 1) cap3, .agg (rowA rq), .pointer (some ⟨gx, 0, none⟩), .pointer (some ⟨gb, 0, none⟩), .pointer (some ⟨gf, 0, none⟩)] w3 fun e w' => Below w.heap.size w w' ∧ w'.heap[w.heap.size]? = some (.cells (rowA rq) 79 (0, 0)) ∧ ∃ v, e = .returned (.tuple #[v, .bool false]) from fun g3 cap3 w3 hown hg3 => by
            obtain ⟨hbw, hv3⟩ := HPRE0.out g3 cap3 w3 hown hg3
            have hc := IH.out (out ++ [(q : Int)]) (by rw [hlen1]; omega) (some ⟨g3, 0, none⟩) cap3 w3 (HFW.out.below hbw) (fun e => by cases e) (by rw [hlen1]; exact hv3) (Nat.le_trans HBASE.out (below_size hbw))
            rw [hlen1, HRQ2.out, hnq] at hc
            exact hc.mono fun e w' h => ⟨hbw.trans (h.1.mono (below_size hbw)), blk_below (blk_grown (blk_alloc (w := W.drew) HRQ.out _) hg3 (by simp)) h.1, h.2⟩)
          clear hnq
          refine start_ (n := 15) (S := fun w' => w'.heap[gf]? = some (.cells #[.func (.func 70) #[] #[.pointer (some ⟨gx, 0, none⟩), .pointer (some ⟨gb, 0, none⟩), .pointer (some ⟨gf, 0, none⟩)]] 87 (0, 0)) ∧ w'.heap[w.heap.size]? = some (.cells (rowA rq) 79 (0, 0))) (ds := [9]) #[false, false, false, false, false, false, false, false, false, false, false, false, false, false, false] (by kernel_rfl) rfl rfl ⟨HFN.out, HRQ.out⟩ (fun hHeld => ?_)
          refine pure_ (i := 1) (N := some 34) (v := ?_) (a' := ?_) #[false, true, false, false, false, false, false, false, false, false, false, false, false, false, false] rfl rfl (by kernel_rfl) (fun _ _ _ h => h) (Or.inl ⟨by rfl, ?_⟩) ?_ ?_
          rotate_left
          · intro w'
            go_simp
            with_reducible rfl
          rotate_left
          · simp only [Act.put, List.setIfInBounds_toArray, List.set_cons_zero, List.set_cons_succ, i64_w, i32_w]
            rfl
          refine pure_ (i := 2) (N := some 35) (v := ?_) (a' := ?_) #[false, true, true, false, false, false, false, false, false, false, false, false, false, false, false] rfl rfl (by kernel_rfl) (fun _ _ _ h => h) (Or.inl ⟨by rfl, ?_⟩) ?_ ?_
          rotate_left
          · intro w'
            go_simp
            with_reducible rfl
          rotate_left
          · simp only [Act.put, List.setIfInBounds_toArray, List.set_cons_zero, List.set_cons_succ, i64_w, i32_w]
            rfl
          refine pure_ (i := 3) (N := some 36) (v := ?_) (a' := ?_) #[false, true, true, true, false, false, false, false, false, false, false, false, false, false, false] rfl rfl (by kernel_rfl) (fun _ _ _ h => h) (Or.inl ⟨by rfl, ?_⟩) ?_ ?_
          rotate_left
          · intro w'
            go_simp
            with_reducible rfl
          rotate_left
          · simp only [Act.put, List.setIfInBounds_toArray, List.set_cons_zero, List.set_cons_succ, i64_w, i32_w]
            rfl
          refine pure_ (i := 4) (N := some 37) (v := ?_) (a' := ?_) #[false, true, true, true, true, false, false, false, false, false, false, false, false, false, false] rfl rfl (by kernel_rfl) (fun _ _ _ h => h) (Or.inl ⟨by rfl, ?_⟩) ?_ ?_
          rotate_left
          · intro w'
            go_simp
            with_reducible rfl
          rotate_left
          · simp only [Act.put, List.setIfInBounds_toArray, List.set_cons_zero, List.set_cons_succ, i64_w, i32_w]
            rfl
          refine pure_ (i := 5) (N := some 38) (v := ?_) (a' := ?_) #[false, true, true, true, true, true, false, false, false, false, false, false, false, false, false] rfl rfl (by kernel_rfl) (fun _ _ _ h => h) (Or.inl ⟨by rfl, ?_⟩) ?_ ?_
          rotate_left
          · intro w'
            go_simp
            with_reducible rfl
          rotate_left
          · simp only [Act.put, List.setIfInBounds_toArray, List.set_cons_zero, List.set_cons_succ, i64_w, i32_w]
            rfl
          refine take_ (i := 0) (N := some 33) (v := ?_) (a' := ?_) #[true, true, true, true, true, true, false, false, false, false, false, false, false, false, false] rfl rfl (by kernel_rfl) (fun _ _ _ h => h) (Or.inl ⟨by rfl, ?_⟩) hHeld ?_ ?_
          rotate_left
          · rintro w' ⟨s0, s1⟩
            go_simp
            with_reducible rfl
          rotate_left
          · simp only [Act.put, List.setIfInBounds_toArray, List.set_cons_zero, List.set_cons_succ, i64_w, i32_w]
            rfl
          refine take_ (i := 8) (N := some 41) (v := ?_) (a' := ?_) #[true, true, true, true, true, true, false, false, true, false, false, false, false, false, false] rfl rfl (by kernel_rfl) (fun _ _ _ h => h) (Or.inl ⟨by rfl, ?_⟩) hHeld ?_ ?_
          rotate_left
          · rintro w' ⟨s0, s1⟩
            go_simp
            with_reducible rfl
          rotate_left
          · simp only [Act.put, List.setIfInBounds_toArray, List.set_cons_zero, List.set_cons_succ, i64_w, i32_w]
            rfl
          refine one_ (i := 6) (N := some 39) #[true, true, true, true, true, true, true, false, true, false, false, false, false, false, false] rfl rfl (by kernel_rfl) (by decide) (fun K hK => ?_)
          refine value_ (w1 := ?_) (v := ?_) (by rfl) rfl ?_ ?_
          rotate_left 2
          · go_simp
            constructor
            · rfl
            · rfl
          refine hK.out _ _ ⟨blk_alloc (w := W.drew) HFN.out _, blk_alloc (w := W.drew) HRQ.out _⟩ (fun hHeld => ?_)
          clear hK K
          refine norm_ (a' := ?_) ?_ ?_
          rotate_left
          · show Act.put _ (some 39) _ = _
            simp only [Act.put, List.setIfInBounds_toArray, List.set_cons_zero, List.set_cons_succ, i64_w, i32_w]
            rfl
          refine one_ (i := 7) (N := some 40) #[true, true, true, true, true, true, true, true, true, false, false, false, false, false, false] rfl rfl (by kernel_rfl) (by decide) (fun K hK => ?_)
          refine step_append_grows rfl (.tmp 37) (.tmp 39) 26 rfl 3 i0 (.int .i64 0) 1 8 Tryd.underlying26 hinf hz0 hz1 hz2 rfl (by decide) A out.length out.length (out.map (Value.int .i64)) (by rfl) (fun e => ⟨HAN.out e, HAN.out e⟩) (by simp) HOLD.out ⟨W.drew.heap.size, 0, none⟩ 1 1 [.int .i64 q] (by rfl) rfl (cell_one_new _ _ _) (by simp [Value.oneCell']) (by omega) (by simp [maxLen]; omega) (by omega) ?_
          intro v3 w3 hown hg3
          obtain ⟨g3, cap3, rfl⟩ := ownsRow_succ hown
          refine hK.out _ _ ⟨blk_grown (blk_alloc (w := W.drew) HFN.out _) hg3 (by simp), blk_grown (blk_alloc (w := W.drew) HRQ.out _) hg3 (by simp)⟩ (fun hHeld => ?_)
          clear hK K
          refine norm_ (a' := ?_) ?_ ?_
          rotate_left
          · show Act.put _ (some 40) _ = _
            simp only [Act.put, List.setIfInBounds_toArray, List.set_cons_zero, List.set_cons_succ, i64_w, i32_w]
            rfl
          refine last_ (i := 9) (N := some 42) #[true, true, true, true, true, true, true, true, true, true, false, false, false, false, false] rfl rfl (by kernel_rfl) (by decide) (fun K hK => ?_)
          have hpre := HPRE.out g3 cap3 w3 hown hg3
          refine goesV_ hfn0 (by kernel_rfl) rfl #[.slice (some ⟨g3, 0, none⟩) (out.length + 1) cap3, .agg (rowA rq), .pointer (some ⟨gx, 0, none⟩), .pointer (some ⟨gb, 0, none⟩), .pointer (some ⟨gf, 0, none⟩)] (by rfl) rfl rfl rfl (by (try simp only [Array.empty_append, Array.append_empty, List.map_toArray, List.map_cons, List.map_nil, List.append_toArray, List.nil_append, List.append_nil, List.cons_append]); rfl) ?_
          with_reducible refine (hpre).mono ?_
          rintro e w4 ⟨hb4, hrq4, v4, rfl⟩
          refine ⟨_, rfl, ?_⟩
          refine hK.out _ _ ?_
          clear hK K
          refine norm_ (a' := ?_) ?_ ?_
          rotate_left
          · show Act.put _ (some 42) _ = _
            simp only [Act.put, List.setIfInBounds_toArray, List.set_cons_zero, List.set_cons_succ, i64_w, i32_w]
            rfl
          refine pure_ (i := 10) (N := some 32) (v := ?_) (a' := ?_) #[true, true, true, true, true, true, true, true, true, true, true, false, false, false, false] rfl rfl (by kernel_rfl) (fun _ _ _ h => h) (Or.inl ⟨by rfl, ?_⟩) ?_ ?_
          rotate_left
          · intro w'
            go_simp
            with_reducible rfl
          rotate_left
          · simp only [Act.put, List.setIfInBounds_toArray, List.set_cons_zero, List.set_cons_succ, i64_w, i32_w]
            rfl
          refine pure_ (i := 11) (N := some 43) (v := ?_) (a' := ?_) #[true, true, true, true, true, true, true, true, true, true, true, true, false, false, false] rfl rfl (by kernel_rfl) (fun _ _ _ h => h) (Or.inl ⟨by rfl, ?_⟩) ?_ ?_
          rotate_left
          · intro w'
            go_simp
            with_reducible rfl
          rotate_left
          · simp only [Act.put, List.setIfInBounds_toArray, List.set_cons_zero, List.set_cons_succ, i64_w, i32_w]
            rfl
          refine pure_ (i := 12) (N := some 44) (v := ?_) (a' := ?_) #[true, true, true, true, true, true, true, true, true, true, true, true, true, false, false] rfl rfl (by kernel_rfl) (fun _ _ _ h => h) (Or.inl ⟨by rfl, ?_⟩) ?_ ?_
          rotate_left
          · intro w'
            go_simp
            with_reducible rfl
          rotate_left
          · simp only [Act.put, List.setIfInBounds_toArray, List.set_cons_zero, List.set_cons_succ, i64_w, i32_w]
            rfl
          refine pure_ (i := 13) (N := some 11) (v := ?_) (a' := ?_) #[true, true, true, true, true, true, true, true, true, true, true, true, true, true, false] rfl rfl (by kernel_rfl) (fun _ _ _ h => h) (Or.inl ⟨by rfl, ?_⟩) ?_ ?_
          rotate_left
          · intro w'
            go_simp
            with_reducible rfl
          rotate_left
          · simp only [Act.put, List.setIfInBounds_toArray, List.set_cons_zero, List.set_cons_succ, i64_w, i32_w]
            rfl
          refine pure_ (i := 14) (N := some 12) (v := ?_) (a' := ?_) #[true, true, true, true, true, true, true, true, true, true, true, true, true, true, true] rfl rfl (by kernel_rfl) (fun _ _ _ h => h) (Or.inl ⟨by rfl, ?_⟩) ?_ ?_
          rotate_left
          · intro w'
            go_simp
            with_reducible rfl
          rotate_left
          · simp only [Act.put, List.setIfInBounds_toArray, List.set_cons_zero, List.set_cons_succ, i64_w, i32_w]
            rfl
          refine done_ (by kernel_rfl) ?_

          go_wp2_with fail
          go_roundw
          case rel => exact ⟨q + 1, by omega, by go_num, HQS, Lib.hid ⟨[(2 : Int) ^ q], by simp, by rw [HRQE.out]; exact hrq4⟩, Lib.hid hb4⟩
          case measure => simp [intOf]; omega
      · obtain rfl : q = 4 := by omega
        have hnone : newFrom n l (d + 1) out = none := by rw [HNF.out]; exact findSome_all HQ.out
        have HNO := Lib.hid hnone; clear hnone
        go_wp2_with fail
        rw [HNO.out]
        exact bodyPost_ret (results_tmp2 rfl _ _ _) rfl ⟨HB.out, _, rfl⟩
end Go.Proofs.YtdllacjkacmghaaDoorD

namespace Go.Proofs.YtdllacjkacmghaaDoorD
open Go.RowKit Go.Proofs.YtdllacjkacmghaaDoorW.PrintWords Go.Proofs.YtdllacjkacmghaaDoorW.PrintLast Go.Proofs.YtdllacjkacmghaaDoorW.PrintMore Go.Proofs.YtdllacjkacmghaaDoorH
set_option linter.unusedVariables false
set_option linter.unusedSimpArgs false

theorem calls_bare' (w : World) : Calls Tryd.prog 71 #[] w fun e w' => e = .returned (.agg (rowA [])) ∧ Below w.heap.size w w' := calls_bare w

set_option maxRecDepth 100000 in
set_option maxHeartbeats 2000000 in
theorem calls_New (R : Int) (A : Option Addr) (c : Nat) (l : List (List Int)) (w : World) (hr : Kd.C (Kd.slice 3 (Kd.int .i64)) w A l.length l) (hc : l.length ≤ c) (hG : Glob w) :
    Calls Tryd.prog 27 #[.agg #[.int .i64 R, .slice A l.length c]] w fun e w' =>
      ∃ v, e = .returned (.tuple #[v, .int .i64 (newD R l).2]) ∧ Kd.V (Kd.int .i64) 3 w' w.heap.size (fun k => w.heap.size ≤ k) v (newD R l).1 ∧ Below w.heap.size w w' := by
  have hv := valid_iff R l
  have HR := Lib.hid hr; clear hr
  have HG := Lib.hid hG; clear hG
  have HXa := Lib.hid (blk_new w (.cells #[.int .i64 R, .slice A l.length c] 24))
  have HBa := Lib.hid (below_alloc (Below.refl _ _) (.cells #[.int .i64 R, .slice A l.length c] 24) : Below w.heap.size w _)
  by_cases hval : validB R l = true
  · have hck : checkD R l = 0 := by simp [checkD, hval]
    have hV := hv.1 hval
    obtain ⟨n, rfl, hn8, hn1⟩ := hV.nat
    have HV := Lib.hid hV; clear hV hv
    have hn0 : ((n : Int)).toNat = n := by simp
    have h6 : l.length ≤ 6 := HV.out.h6
    have hdd : newD n l = (match newFrom n l n [] with | some o => (o, (0 : Int)) | none => ([], (4 : Int))) := by unfold newD; first | (rw [if_pos hval, hn0]; done) | (rw [if_pos hval, hn0]; rfl)
    have HDD := Lib.hid hdd; clear hdd
    go_enter Tryd.func27, Tryd.ntmps27
    go_wp2_with (first | (go_at_call 20; refine (calls_Check n A c l _ (Kd.C_below HR.out HBa.out) hc).mono ?_; rintro e w1 ⟨he, hb⟩; rw [hck] at he; subst he; have HX := Lib.hid (blk_below HXa.out hb); have HB := Lib.hid (HBa.out.trans (hb.mono (by simp))); clear hb HXa HBa; have c0 : w1.cell? ⟨w.heap.size, 0, none⟩ = some (.int .i64 n) := blk_cell HX.out 0; have c1 : w1.cell? ⟨w.heap.size, 1, none⟩ = some (.slice A l.length c) := blk_cell HX.out 1) | (go_at_call 66; refine (calls_opened' n A c l HV.out _ (Kd.C_below HR.out HB.out) hc (HG.out.below HB.out)).mono ?_; rintro e w2 ⟨RA, rc, m, rfl, hBk, hrc, hm, hra, hb⟩; have HX := Lib.hid (blk_below HX.out hb); have HB := Lib.hid (HB.out.trans (hb.mono (below_size HB.out))); have HBK := Lib.hid hBk; clear hBk hb hra hm; have hO := blk_new (w2.alloc (.cells #[.int .i64 n, .slice A l.length c, .slice RA l.length rc, .map (some m)] 72)) (.cells #[.nilFunc] 87); rw [World.size_alloc] at hO; have HO := Lib.hid hO; clear hO; have hcf := blk_cell HO.out 0; have hff := blk_frozen HO.out 0))
    generalize hWd : (w2.alloc (.cells #[.int .i64 n, .slice A l.length c, .slice RA l.length rc, .map (some m)] 72)).alloc (.cells #[.func (.func 70) #[] #[.pointer (some ⟨w.heap.size, 0, none⟩), .pointer (some ⟨w2.heap.size, 0, none⟩), .pointer (some ⟨w2.heap.size + 1, 0, none⟩)]] 87) = W
    have hFn : W.heap[w2.heap.size + 1]? = some (.cells #[.func (.func 70) #[] #[.pointer (some ⟨w.heap.size, 0, none⟩), .pointer (some ⟨w2.heap.size, 0, none⟩), .pointer (some ⟨w2.heap.size + 1, 0, none⟩)]] 87 (0, 0)) := by
      rw [← hWd]
      have := blk_new (w2.alloc (.cells #[.int .i64 n, .slice A l.length c, .slice RA l.length rc, .map (some m)] 72)) (.cells #[.func (.func 70) #[] #[.pointer (some ⟨w.heap.size, 0, none⟩), .pointer (some ⟨w2.heap.size, 0, none⟩), .pointer (some ⟨w2.heap.size + 1, 0, none⟩)]] 87)
      rwa [World.size_alloc] at this
    have hw2 : Below w2.heap.size w2 W := by rw [← hWd]; exact below_alloc (below_alloc (Below.refl _ _) _) _
    have hBook : W.heap[w2.heap.size]? = some (.cells #[.int .i64 n, .slice A l.length c, .slice RA l.length rc, .map (some m)] 72 (0, 0)) := by rw [← hWd]; exact blk_alloc (blk_new w2 _) _
    clear hWd hcf hff c0 c1
    have hbk := HBK.out.below hw2
    have HFB := Lib.hid (show FromBox W n A l.length c RA rc m l w.heap.size w2.heap.size (w2.heap.size + 1) from ⟨hbk.glob, hbk.row, blk_below HX.out hw2, hBook, hFn⟩)
    have HFN := Lib.hid hFn
    have HB2 := Lib.hid (HB.out.trans (hw2.mono (below_size HB.out)))
    clear hbk hFn hBook hw2 HX HB HBK HO
    have hfn0 := Tryd.func70
    have hfc : ∀ W' : World, W'.heap[w2.heap.size + 1]? = some (.cells #[.func (.func 70) #[] #[.pointer (some ⟨w.heap.size, 0, none⟩), .pointer (some ⟨w2.heap.size, 0, none⟩), .pointer (some ⟨w2.heap.size + 1, 0, none⟩)]] 87 (0, 0)) → W'.cell? ⟨w2.heap.size + 1, 0, none⟩ = some (.func (.func 70) #[] #[.pointer (some ⟨w.heap.size, 0, none⟩), .pointer (some ⟨w2.heap.size, 0, none⟩), .pointer (some ⟨w2.heap.size + 1, 0, none⟩)]) := fun W' h => blk_cell h 0
    have hcall : ∀ W3 : World, Below W.heap.size W W3 → Calls Tryd.prog 70 #[.slice none 0 0, .agg (rowA []), .pointer (some ⟨w.heap.size, 0, none⟩), .pointer (some ⟨w2.heap.size, 0, none⟩), .pointer (some ⟨w2.heap.size + 1, 0, none⟩)] W3 fun e w' => Below w.heap.size w w' ∧ FromPost w.heap.size (newFrom n l n []) e w' := fun W3 hb => by
      have hb3 : Below w.heap.size w W3 := HB2.out.trans (hb.mono (below_size HB2.out))
      exact (calls_from n hn8 A l.length c RA rc m l h6 HV.out.rows8 w.heap.size w2.heap.size (w2.heap.size + 1) w.heap.size n [] (by simp) none 0 W3 (HFB.out.below hb) (fun _ => rfl) (Kd.V_nil _ _ _ _ _) (below_size hb3)).mono fun e w' h => ⟨hb3.trans (h.1.mono (below_size hb3)), h.2⟩
    have HCALL := Lib.hid hcall; clear hcall
    cases hnq : newFrom n l n [] with
    | some o =>
      have HCL := Lib.hid (show ∀ W3 : World, Below W.heap.size W W3 → Calls Tryd.prog 70 #[.slice none 0 0, .agg (rowA []), .pointer (some ⟨w.heap.size, 0, none⟩), .pointer (some ⟨w2.heap.size, 0, none⟩), .pointer (some ⟨w2.heap.size + 1, 0, none⟩)] W3 fun e w' => Below w.heap.size w w' ∧ ∃ v, e = .returned (.tuple #[v, .bool true]) ∧ Kd.V (Kd.int .i64) 3 w' w.heap.size (fun k => w.heap.size ≤ k) v o from fun W3 hb => by have := HCALL.out W3 hb; rw [hnq] at this; exact this)
      have hdd := HDD.out
      rw [hnq] at hdd
      have HDD2 := Lib.hid (show newD n l = (o, (0 : Int)) from hdd)
      clear hdd hnq
      refine start_ (n := 8) (S := fun w' => w'.heap[w2.heap.size + 1]? = some (.cells #[.func (.func 70) #[] #[.pointer (some ⟨w.heap.size, 0, none⟩), .pointer (some ⟨w2.heap.size, 0, none⟩), .pointer (some ⟨w2.heap.size + 1, 0, none⟩)]] 87 (0, 0))) (ds := [2]) #[false, false, false, false, false, false, false, false] (by kernel_rfl) rfl rfl (HFN.out) (fun hHeld => ?_)
      refine take_ (i := 0) (N := some 18) (v := ?_) (a' := ?_) #[true, false, false, false, false, false, false, false] rfl rfl (by kernel_rfl) (fun _ _ _ h => h) (Or.inl ⟨by rfl, ?_⟩) hHeld ?_ ?_
      rotate_left
      · intro w' s0
        go_simp
        with_reducible rfl
      rotate_left
      · simp only [Act.put, List.setIfInBounds_toArray, List.set_cons_zero, List.set_cons_succ, i64_w, i32_w]
        rfl
      refine one_ (i := 1) (N := some 19) #[true, true, false, false, false, false, false, false] rfl rfl (by kernel_rfl) (by decide) (fun K hK => ?_)
      refine goes_ Tryd.func71 (by kernel_rfl) rfl #[] (by rfl) rfl rfl (by first | (simp; done) | (simp only [List.map_toArray, List.map_cons, List.map_nil]; rfl)) ?_
      with_reducible refine (calls_bare' _).mono ?_
      rintro e w5 ⟨rfl, hb5⟩
      have hb6 : Below W.heap.size W w5 := undrew hb5
      refine ⟨_, rfl, ?_⟩
      refine hK.out _ _ (blk_below HFN.out hb6) (fun hHeld => ?_)
      clear hK K
      refine norm_ (a' := ?_) ?_ ?_
      rotate_left
      · show Act.put _ (some 19) _ = _
        simp only [Act.put, List.setIfInBounds_toArray, List.set_cons_zero, List.set_cons_succ, i64_w, i32_w]
        rfl
      refine last_ (i := 2) (N := some 20) #[true, true, true, false, false, false, false, false] rfl rfl (by kernel_rfl) (by decide) (fun K hK => ?_)
      refine goesV_ hfn0 (by kernel_rfl) rfl #[.slice none 0 0, .agg (rowA []), .pointer (some ⟨w.heap.size, 0, none⟩), .pointer (some ⟨w2.heap.size, 0, none⟩), .pointer (some ⟨w2.heap.size + 1, 0, none⟩)] (by rfl) rfl rfl rfl (by (try simp only [Array.empty_append, Array.append_empty, List.map_toArray, List.map_cons, List.map_nil, List.append_toArray, List.nil_append, List.append_nil, List.cons_append]); rfl) ?_
      with_reducible refine (HCL.out _ hb6).mono ?_
      rintro e w6 ⟨hb7, v7, rfl, hV7⟩
      refine ⟨_, rfl, ?_⟩
      refine hK.out _ _ ?_
      clear hK K
      refine norm_ (a' := ?_) ?_ ?_
      rotate_left
      · show Act.put _ (some 20) _ = _
        simp only [Act.put, List.setIfInBounds_toArray, List.set_cons_zero, List.set_cons_succ, i64_w, i32_w]
        rfl
      refine pure_ (i := 3) (N := some 17) (v := ?_) (a' := ?_) #[true, true, true, true, false, false, false, false] rfl rfl (by kernel_rfl) (fun _ _ _ h => h) (Or.inl ⟨by rfl, ?_⟩) ?_ ?_
      rotate_left
      · intro w'
        go_simp
        with_reducible rfl
      rotate_left
      · simp only [Act.put, List.setIfInBounds_toArray, List.set_cons_zero, List.set_cons_succ, i64_w, i32_w]
        rfl
      refine pure_ (i := 4) (N := some 21) (v := ?_) (a' := ?_) #[true, true, true, true, true, false, false, false] rfl rfl (by kernel_rfl) (fun _ _ _ h => h) (Or.inl ⟨by rfl, ?_⟩) ?_ ?_
      rotate_left
      · intro w'
        go_simp
        with_reducible rfl
      rotate_left
      · simp only [Act.put, List.setIfInBounds_toArray, List.set_cons_zero, List.set_cons_succ, i64_w, i32_w]
        rfl
      refine pure_ (i := 5) (N := some 22) (v := ?_) (a' := ?_) #[true, true, true, true, true, true, false, false] rfl rfl (by kernel_rfl) (fun _ _ _ h => h) (Or.inl ⟨by rfl, ?_⟩) ?_ ?_
      rotate_left
      · intro w'
        go_simp
        with_reducible rfl
      rotate_left
      · simp only [Act.put, List.setIfInBounds_toArray, List.set_cons_zero, List.set_cons_succ, i64_w, i32_w]
        rfl
      refine pure_ (i := 6) (N := some 7) (v := ?_) (a' := ?_) #[true, true, true, true, true, true, true, false] rfl rfl (by kernel_rfl) (fun _ _ _ h => h) (Or.inl ⟨by rfl, ?_⟩) ?_ ?_
      rotate_left
      · intro w'
        go_simp
        with_reducible rfl
      rotate_left
      · simp only [Act.put, List.setIfInBounds_toArray, List.set_cons_zero, List.set_cons_succ, i64_w, i32_w]
        rfl
      refine pure_ (i := 7) (N := some 8) (v := ?_) (a' := ?_) #[true, true, true, true, true, true, true, true] rfl rfl (by kernel_rfl) (fun _ _ _ h => h) (Or.inl ⟨by rfl, ?_⟩) ?_ ?_
      rotate_left
      · intro w'
        go_simp
        with_reducible rfl
      rotate_left
      · simp only [Act.put, List.setIfInBounds_toArray, List.set_cons_zero, List.set_cons_succ, i64_w, i32_w]
        rfl
      refine done_ (by kernel_rfl) ?_

      obtain ⟨A7, c7, rfl⟩ := Kd.V_slice hV7
      have h7 := Kd.V_at hV7
      have hle := h7.2.1
      have HF7 := Lib.hid h7.2.2
      clear h7 hV7
      go_wp2_with fail
      rw [HDD2.out]
      exact bodyPost_ret (results_tmp2 rfl _ _ _) rfl ⟨_, rfl, Kd.V_mk (Nat.le_refl _) HF7.out, hb7⟩
    | none =>
      have HCL := Lib.hid (show ∀ W3 : World, Below W.heap.size W W3 → Calls Tryd.prog 70 #[.slice none 0 0, .agg (rowA []), .pointer (some ⟨w.heap.size, 0, none⟩), .pointer (some ⟨w2.heap.size, 0, none⟩), .pointer (some ⟨w2.heap.size + 1, 0, none⟩)] W3 fun e w' => Below w.heap.size w w' ∧ ∃ v, e = .returned (.tuple #[v, .bool false]) from fun W3 hb => by have := HCALL.out W3 hb; rw [hnq] at this; exact this)
      have hdd := HDD.out
      rw [hnq] at hdd
      have HDD2 := Lib.hid (show newD n l = (([] : List Int), (4 : Int)) from hdd)
      clear hdd hnq
      refine start_ (n := 8) (S := fun w' => w'.heap[w2.heap.size + 1]? = some (.cells #[.func (.func 70) #[] #[.pointer (some ⟨w.heap.size, 0, none⟩), .pointer (some ⟨w2.heap.size, 0, none⟩), .pointer (some ⟨w2.heap.size + 1, 0, none⟩)]] 87 (0, 0))) (ds := [2]) #[false, false, false, false, false, false, false, false] (by kernel_rfl) rfl rfl (HFN.out) (fun hHeld => ?_)
      refine take_ (i := 0) (N := some 18) (v := ?_) (a' := ?_) #[true, false, false, false, false, false, false, false] rfl rfl (by kernel_rfl) (fun _ _ _ h => h) (Or.inl ⟨by rfl, ?_⟩) hHeld ?_ ?_
      rotate_left
      · intro w' s0
        go_simp
        with_reducible rfl
      rotate_left
      · simp only [Act.put, List.setIfInBounds_toArray, List.set_cons_zero, List.set_cons_succ, i64_w, i32_w]
        rfl
      refine one_ (i := 1) (N := some 19) #[true, true, false, false, false, false, false, false] rfl rfl (by kernel_rfl) (by decide) (fun K hK => ?_)
      refine goes_ Tryd.func71 (by kernel_rfl) rfl #[] (by rfl) rfl rfl (by first | (simp; done) | (simp only [List.map_toArray, List.map_cons, List.map_nil]; rfl)) ?_
      with_reducible refine (calls_bare' _).mono ?_
      rintro e w5 ⟨rfl, hb5⟩
      have hb6 : Below W.heap.size W w5 := undrew hb5
      refine ⟨_, rfl, ?_⟩
      refine hK.out _ _ (blk_below HFN.out hb6) (fun hHeld => ?_)
      clear hK K
      refine norm_ (a' := ?_) ?_ ?_
      rotate_left
      · show Act.put _ (some 19) _ = _
        simp only [Act.put, List.setIfInBounds_toArray, List.set_cons_zero, List.set_cons_succ, i64_w, i32_w]
        rfl
      refine last_ (i := 2) (N := some 20) #[true, true, true, false, false, false, false, false] rfl rfl (by kernel_rfl) (by decide) (fun K hK => ?_)
      refine goesV_ hfn0 (by kernel_rfl) rfl #[.slice none 0 0, .agg (rowA []), .pointer (some ⟨w.heap.size, 0, none⟩), .pointer (some ⟨w2.heap.size, 0, none⟩), .pointer (some ⟨w2.heap.size + 1, 0, none⟩)] (by rfl) rfl rfl rfl (by (try simp only [Array.empty_append, Array.append_empty, List.map_toArray, List.map_cons, List.map_nil, List.append_toArray, List.nil_append, List.append_nil, List.cons_append]); rfl) ?_
      with_reducible refine (HCL.out _ hb6).mono ?_
      rintro e w6 ⟨hb7, v7, rfl⟩
      refine ⟨_, rfl, ?_⟩
      refine hK.out _ _ ?_
      clear hK K
      refine norm_ (a' := ?_) ?_ ?_
      rotate_left
      · show Act.put _ (some 20) _ = _
        simp only [Act.put, List.setIfInBounds_toArray, List.set_cons_zero, List.set_cons_succ, i64_w, i32_w]
        rfl
      refine pure_ (i := 3) (N := some 17) (v := ?_) (a' := ?_) #[true, true, true, true, false, false, false, false] rfl rfl (by kernel_rfl) (fun _ _ _ h => h) (Or.inl ⟨by rfl, ?_⟩) ?_ ?_
      rotate_left
      · intro w'
        go_simp
        with_reducible rfl
      rotate_left
      · simp only [Act.put, List.setIfInBounds_toArray, List.set_cons_zero, List.set_cons_succ, i64_w, i32_w]
        rfl
      refine pure_ (i := 4) (N := some 21) (v := ?_) (a' := ?_) #[true, true, true, true, true, false, false, false] rfl rfl (by kernel_rfl) (fun _ _ _ h => h) (Or.inl ⟨by rfl, ?_⟩) ?_ ?_
      rotate_left
      · intro w'
        go_simp
        with_reducible rfl
      rotate_left
      · simp only [Act.put, List.setIfInBounds_toArray, List.set_cons_zero, List.set_cons_succ, i64_w, i32_w]
        rfl
      refine pure_ (i := 5) (N := some 22) (v := ?_) (a' := ?_) #[true, true, true, true, true, true, false, false] rfl rfl (by kernel_rfl) (fun _ _ _ h => h) (Or.inl ⟨by rfl, ?_⟩) ?_ ?_
      rotate_left
      · intro w'
        go_simp
        with_reducible rfl
      rotate_left
      · simp only [Act.put, List.setIfInBounds_toArray, List.set_cons_zero, List.set_cons_succ, i64_w, i32_w]
        rfl
      refine pure_ (i := 6) (N := some 7) (v := ?_) (a' := ?_) #[true, true, true, true, true, true, true, false] rfl rfl (by kernel_rfl) (fun _ _ _ h => h) (Or.inl ⟨by rfl, ?_⟩) ?_ ?_
      rotate_left
      · intro w'
        go_simp
        with_reducible rfl
      rotate_left
      · simp only [Act.put, List.setIfInBounds_toArray, List.set_cons_zero, List.set_cons_succ, i64_w, i32_w]
        rfl
      refine pure_ (i := 7) (N := some 8) (v := ?_) (a' := ?_) #[true, true, true, true, true, true, true, true] rfl rfl (by kernel_rfl) (fun _ _ _ h => h) (Or.inl ⟨by rfl, ?_⟩) ?_ ?_
      rotate_left
      · intro w'
        go_simp
        with_reducible rfl
      rotate_left
      · simp only [Act.put, List.setIfInBounds_toArray, List.set_cons_zero, List.set_cons_succ, i64_w, i32_w]
        rfl
      refine done_ (by kernel_rfl) ?_

      go_wp2_with fail
      rw [HDD2.out]
      exact bodyPost_ret (results_tmp2 rfl _ _ _) rfl ⟨_, rfl, Kd.V_nil _ _ _ _ _, hb7⟩
  · have hck : checkD R l = 70 := by simp [checkD, hval]
    have hfd : newD R l = ([], 70) := by simp [newD, hval]
    rw [hfd]
    go_enter Tryd.func27, Tryd.ntmps27
    go_wp2_with (go_at_call 20; refine (calls_Check R A c l _ (Kd.C_below HR.out HBa.out) hc).mono ?_; rintro e w1 ⟨he, hb⟩; rw [hck] at he; subst he; have HB := Lib.hid (HBa.out.trans (hb.mono (by simp))))
    exact bodyPost_ret (results_tmp2 rfl _ _ _) rfl ⟨_, rfl, Kd.V_nil _ _ _ _ _, HB.out⟩
end Go.Proofs.YtdllacjkacmghaaDoorD
