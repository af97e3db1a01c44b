/- Package plank: parts that are laid together. -/
import Derived.Test.YtekjlpldooihhaaDoorWWords
import Derived.Test.YtekjlpldooihhaaDoorPAx0
import Derived.Test.YtekjlpldooihhaaDoorRows
import Derived.LaidHandle
import Derived.RowKitVeiled
import Derived.RangeFuncBox
import Derived.OrdersIn
import Derived.TacticsIn
import Derived.Deep.RegionLawGrows
import Derived.Laws.EntriesVeiled
namespace Go.Proofs.YtekjlpldooihhaaDoorP
open Go.Proofs.YtekjlpldooihhaaDoorSh
open Go.RowKit Go.Proofs.YtekjlpldooihhaaDoorW.PrintWords Go.Proofs.YtekjlpldooihhaaDoorW.PrintLast Go.Proofs.YtekjlpldooihhaaDoorW.PrintMore Go.Proofs.YtekjlpldooihhaaDoorH Go.Proofs.YtekjlpldooihhaaDoorEv Go.Proofs.YtekjlpldooihhaaDoor.PA
set_option linter.unusedVariables false
set_option linter.unusedSimpArgs false
theorem rowI_lit (f : Nat → Bool) : rowI f = #[.bool (f 0), .bool (f 1), .bool (f 2), .bool (f 3), .bool (f 4), .bool (f 5), .bool (f 6), .bool (f 7), .bool (f 8), .bool (f 9), .bool (f 10), .bool (f 11), .bool (f 12), .bool (f 13), .bool (f 14), .bool (f 15)] := rfl
set_option maxRecDepth 100000 in
theorem run_eqI (d : Nat) (f g : Nat → Bool) (w : World) : (Op.equalIn (d + 1 + 1) 131 (.agg (rowI f)) (.agg (rowI g))).run Tryd.prog w = .ok ((List.range 16).all fun i => f i == g i) w := by
  obtain ⟨i0, hi⟩ : ∃ i, Tryd.prog.info? 4 = some i := ⟨_, rfl⟩
  rw [run_equalIn_array w (d + 1) (rowI f) (rowI g) Tryd.underlying131 hi]
  have hcs : Tryd.prog.cellsOf 4 = 1 := by kernel_rfl
  rw [hcs]
  refine run_eqItems_fn (fun i => .bool (f i)) (fun i => .bool (g i)) _ _ ?_ ?_ ?_
  all_goals
    intro i hi
    simp only [List.mem_range] at hi
    try simp only [rowI_lit]
    match i, hi with
    | 0, _ => first | (go_simp; done) | (go_simp; rfl)
    | 1, _ => first | (go_simp; done) | (go_simp; rfl)
    | 2, _ => first | (go_simp; done) | (go_simp; rfl)
    | 3, _ => first | (go_simp; done) | (go_simp; rfl)
    | 4, _ => first | (go_simp; done) | (go_simp; rfl)
    | 5, _ => first | (go_simp; done) | (go_simp; rfl)
    | 6, _ => first | (go_simp; done) | (go_simp; rfl)
    | 7, _ => first | (go_simp; done) | (go_simp; rfl)
    | 8, _ => first | (go_simp; done) | (go_simp; rfl)
    | 9, _ => first | (go_simp; done) | (go_simp; rfl)
    | 10, _ => first | (go_simp; done) | (go_simp; rfl)
    | 11, _ => first | (go_simp; done) | (go_simp; rfl)
    | 12, _ => first | (go_simp; done) | (go_simp; rfl)
    | 13, _ => first | (go_simp; done) | (go_simp; rfl)
    | 14, _ => first | (go_simp; done) | (go_simp; rfl)
    | 15, _ => first | (go_simp; done) | (go_simp; rfl)
    | n + 16, h => exact absurd h (by omega)
structure Hit (h : Nat) (hb : Nat → Nat → (Nat → Bool) → Bool) : Prop where
  call : ∀ (lo hi : Nat) (f : Nat → Bool), lo ≤ hi → hi < 16 → ∀ w : World, Calls Tryd.prog h #[.agg #[.int .i64 lo, .int .i64 hi], .agg (rowI f)] w fun e w' => e = .returned (.bool (hb lo hi f)) ∧ Below w.heap.size w w'
  fn : ∃ fn, Tryd.prog.funcs[h]? = some fn ∧ (fn.name == "runtime.NumGoroutine") = false ∧ fn.body.isSome = true
theorem hit_can : Hit 131 kcanB := ⟨calls_kcan, _, Tryd.func131, by kernel_rfl, rfl⟩
theorem hit_must : Hit 133 kmustB := ⟨calls_kmust, _, Tryd.func133, by kernel_rfl, rfl⟩
structure WoodOk (y : S48) : Prop where
  few : y.f1.length ≤ 3
  knot : ∀ k ∈ y.f1, 0 ≤ k.f0 ∧ k.f0 ≤ k.f1 ∧ k.f1 < 16
def soundB (y : S48) (x : S50) (a : Nat) (turned : Bool) (hb : Nat → Nat → (Nat → Bool) → Bool) : Bool :=
  ((List.range 16).all fun i => jset x a turned i == false) || y.f1.all fun k => !hb k.f0.toNat k.f1.toNat (jset x a turned)
set_option maxRecDepth 100000 in
set_option maxHeartbeats 1000000 in
theorem calls_sound (PA : Option Addr) (pc : Nat) (QA : Option Addr) (qc m : Nat) (P : List S48) (Q : List S50) (i p a : Nat) (turned : Bool) (h : Nat) (hb : Nat → Nat → (Nat → Bool) → Bool) (hh : Hit h hb) (hi : i < P.length) (hp : p < Q.length) (hy : WoodOk (P.getD i z48)) (hx : Fits (Q.getD p z50) a) (w : World) (hP : Kd.C k48 w PA P.length P) (hQ : Kd.C k50 w QA Q.length Q) :
    Calls Tryd.prog 98 #[.agg (bookV PA P.length pc QA Q.length qc m), .agg #[.int .i64 i, .int .i64 p, .int .i64 a], .bool turned, .func (.func h) #[] #[]] w fun e w' =>
      e = .returned (.bool (soundB (P.getD i z48) (Q.getD p z50) a turned hb)) ∧ Below w.heap.size w w' := by
  have h2 := new2 w (.cells #[.slice PA P.length pc, .slice QA Q.length qc, .map (some m)] 84) (.cells #[.int .i64 i, .int .i64 p, .int .i64 a] 87)
  obtain ⟨x, hxe⟩ : ∃ x, Q.getD p z50 = x := ⟨_, rfl⟩
  have hcj := fun W hQW => calls_joints PA P.length pc QA qc m Q i p a turned hp hx W hQW
  obtain ⟨J, hJ⟩ : ∃ J, jset (Q.getD p z50) a turned = J := ⟨_, rfl⟩
  unfold soundB
  rw [hJ] at hcj ⊢
  have heq : ∀ W, (Op.equalIn 10000 131 (.agg #[.bool (J 0), .bool (J 1), .bool (J 2), .bool (J 3), .bool (J 4), .bool (J 5), .bool (J 6), .bool (J 7), .bool (J 8), .bool (J 9), .bool (J 10), .bool (J 11), .bool (J 12), .bool (J 13), .bool (J 14), .bool (J 15)]) (.agg (rowI fun _ => false))).run Tryd.prog W = .ok ((List.range 16).all fun i => J i == false) W := fun W => run_eqI 9998 J (fun _ => false) W
  obtain ⟨bz, hbz⟩ : ∃ bz, ((List.range 16).all fun i => J i == false) = bz := ⟨_, rfl⟩
  rw [hbz] at heq ⊢
  obtain ⟨pa, B1, d1, rfl, e0, e1, hl1, hC1⟩ := at_wood hP i hi
  obtain ⟨y, hye⟩ : ∃ y, P.getD i z48 = y := ⟨_, rfl⟩
  rw [hye] at e0 e1 hl1 hC1 hy ⊢
  have HE1 := Lib.hid e1; have HC1 := Lib.hid hC1
  clear e0 e1 hC1 hye hbz
  have HP := Lib.hid hP; have HQ := Lib.hid hQ; have HY := Lib.hid hy; have HX := Lib.hid hx; have HCJ := Lib.hid hcj
  clear hP hQ hy hx hcj hxe hJ
  unfold bookV at HCJ
  obtain ⟨n0, n1, n3, n4⟩ := h2
  have HN0 := Lib.hid n0; have HN1 := Lib.hid n1; have HN3 := Lib.hid n3
  clear n0 n1 n3
  go_enter Tryd.func98, Tryd.ntmps98
  unfold bookV
  go_wp2_with (first | (go_at_call 111; refine (HCJ.out _ (Kd.C_below HQ.out HN3.out)).mono ?_; rintro e w1 ⟨rfl, hb1⟩; have hs1 := hb1.size; rw [n4] at hs1; have HA := Lib.hid (below_far HN0.out hb1); have HS := Lib.hid (below_far HN1.out hb1); have HB := Lib.hid (HN3.out.trans (hb1.mono (by rw [n4]; omega))); clear HN0 HN1 HN3 n4 hb1; have HN := Lib.hid (blk_new w1 (.cells zeroI 131))) | ((with_reducible refine gate_store (t := 131) (p := 9) rfl ?_); refine wpList_store_row rfl 131 _ _ rfl w1.heap.size _ rfl rfl 131 _ HN.out (by kernel_rfl) rfl (rowI_one _) ?_; have HJ := Lib.hid (setRow_heap _ w1.heap.size _ (rowI J) 131 _ HN.out); have HA2 := Lib.hid ((setRow_other (w1.alloc (.cells zeroI 131)) w1.heap.size w.heap.size (rowI J) (by omega)).trans (blk_alloc HA.out _)); have HS2 := Lib.hid ((setRow_other (w1.alloc (.cells zeroI 131)) w1.heap.size (w.heap.size + 1) (rowI J) (by omega)).trans (blk_alloc HS.out _)); have HB2 := Lib.hid (below_setRow (g := w1.heap.size) (HB.out.alloc (by omega) (.cells zeroI 131)) (by omega) (rowI J)); clear HA HS HB; (try change wpList _ _ _ _ _ ((w1.alloc (.cells zeroI 131)).setRow w1.heap.size (rowI J))); generalize (w1.alloc (.cells zeroI 131)).setRow w1.heap.size (rowI J) = W at HJ HA2 HS2 HB2 ⊢))
  refine start_ (n := 3) (S := fun w' => w'.cell? ⟨w1.heap.size, 0, none⟩ = some (.bool (J 0)) ∧ w'.cell? ⟨w1.heap.size, 1, none⟩ = some (.bool (J 1)) ∧ w'.cell? ⟨w1.heap.size, 2, none⟩ = some (.bool (J 2)) ∧ w'.cell? ⟨w1.heap.size, 3, none⟩ = some (.bool (J 3)) ∧ w'.cell? ⟨w1.heap.size, 4, none⟩ = some (.bool (J 4)) ∧ w'.cell? ⟨w1.heap.size, 5, none⟩ = some (.bool (J 5)) ∧ w'.cell? ⟨w1.heap.size, 6, none⟩ = some (.bool (J 6)) ∧ w'.cell? ⟨w1.heap.size, 7, none⟩ = some (.bool (J 7)) ∧ w'.cell? ⟨w1.heap.size, 8, none⟩ = some (.bool (J 8)) ∧ w'.cell? ⟨w1.heap.size, 9, none⟩ = some (.bool (J 9)) ∧ w'.cell? ⟨w1.heap.size, 10, none⟩ = some (.bool (J 10)) ∧ w'.cell? ⟨w1.heap.size, 11, none⟩ = some (.bool (J 11)) ∧ w'.cell? ⟨w1.heap.size, 12, none⟩ = some (.bool (J 12)) ∧ w'.cell? ⟨w1.heap.size, 13, none⟩ = some (.bool (J 13)) ∧ w'.cell? ⟨w1.heap.size, 14, none⟩ = some (.bool (J 14)) ∧ w'.cell? ⟨w1.heap.size, 15, none⟩ = some (.bool (J 15))) (ds := []) #[false, false, false] (by kernel_rfl) rfl rfl ⟨rowI_cell (blk_drew HJ.out) 0 (by decide), rowI_cell (blk_drew HJ.out) 1 (by decide), rowI_cell (blk_drew HJ.out) 2 (by decide), rowI_cell (blk_drew HJ.out) 3 (by decide), rowI_cell (blk_drew HJ.out) 4 (by decide), rowI_cell (blk_drew HJ.out) 5 (by decide), rowI_cell (blk_drew HJ.out) 6 (by decide), rowI_cell (blk_drew HJ.out) 7 (by decide), rowI_cell (blk_drew HJ.out) 8 (by decide), rowI_cell (blk_drew HJ.out) 9 (by decide), rowI_cell (blk_drew HJ.out) 10 (by decide), rowI_cell (blk_drew HJ.out) 11 (by decide), rowI_cell (blk_drew HJ.out) 12 (by decide), rowI_cell (blk_drew HJ.out) 13 (by decide), rowI_cell (blk_drew HJ.out) 14 (by decide), rowI_cell (blk_drew HJ.out) 15 (by decide)⟩ (fun hHeld => ?_)
  refine tk_ (i := 0) (N := some 16) (qa_ 3 1) hHeld ?_
  refine on_ (i := 1) (N := some 17) (qa_ 3 3) (fun K hK => ?_)
  refine goes_ Tryd.func105 (by kernel_rfl) rfl #[] (by rfl) rfl rfl (by first | (simp; done) | (simp only [List.map_toArray, List.map_cons, List.map_nil]; rfl)) ?_
  with_reducible refine (calls_none _).mono ?_
  rintro e w2 ⟨rfl, hb2⟩
  have hb3 : Below W.heap.size W w2 := undrew hb2
  have HJ3 := Lib.hid (blk_below HJ.out hb3)
  refine ⟨_, rfl, ?_⟩
  refine hK.out _ _ ⟨rowI_cell HJ3.out 0 (by decide), rowI_cell HJ3.out 1 (by decide), rowI_cell HJ3.out 2 (by decide), rowI_cell HJ3.out 3 (by decide), rowI_cell HJ3.out 4 (by decide), rowI_cell HJ3.out 5 (by decide), rowI_cell HJ3.out 6 (by decide), rowI_cell HJ3.out 7 (by decide), rowI_cell HJ3.out 8 (by decide), rowI_cell HJ3.out 9 (by decide), rowI_cell HJ3.out 10 (by decide), rowI_cell HJ3.out 11 (by decide), rowI_cell HJ3.out 12 (by decide), rowI_cell HJ3.out 13 (by decide), rowI_cell HJ3.out 14 (by decide), rowI_cell HJ3.out 15 (by decide)⟩ (fun hHeld => ?_)
  clear hK K
  refine nm_ (some 17) ?_
  refine pu_ (i := 2) (N := some 18) (qa_ 3 7) ?_
  refine done_ (by kernel_rfl) ?_
  have HB3 := Lib.hid (HB2.out.trans (hb3.mono (below_size HB2.out)))
  cases bz with
  | true =>
    go_wp2_with fail
    go_ret
    exact ⟨rfl, HB3.out⟩
  | false =>
    have a0 : w2.cell? ⟨w.heap.size, 0, none⟩ = some (.slice (some pa) P.length pc) := blk_cell (blk_below HA2.out hb3) 0
    have a1 : w2.cell? ⟨w.heap.size + 1, 0, none⟩ = some (.int .i64 i) := blk_cell (blk_below HS2.out hb3) 0
    have a2 := pw_cell_below HB3.out HE1.out
    go_wp2_with fail
    obtain ⟨fn, hf0, hf1, hf2⟩ := hh.fn
    obtain ⟨bc, hf3⟩ : ∃ c, fn.body = some c := by cases hbb : fn.body with | none => rw [hbb] at hf2; cases hf2 | some c => exact ⟨c, rfl⟩
    have hent := enters_of hf0 hf1 hf3
    have HENT := Lib.hid hent
    clear a0 a1 a2 hf0 hf1 hf2 hf3 hent heq HA2 HS2 hb3 HN HCJ hHeld
    go_loopw [28] (fun v wr => ∃ k : Nat, k ≤ y.f1.length ∧ v = .int .i64 k ∧ Hid (∀ j, j < k → hb (y.f1.getD j z60).f0.toNat (y.f1.getD j z60).f1.toNat J = false) ∧ Hid (wr.heap[w1.heap.size]? = some (.cells (rowI J) 131 (0, 0))) ∧ Hid (Below w.heap.size w wr)) (fun v _ => y.f1.length - (intOf v).toNat)
    case atStart => exact ⟨0, Nat.zero_le _, rfl, Lib.hid (fun j h => absurd h (Nat.not_lt_zero _)), HJ3, HB3⟩
    case round =>
      clear HB3 HJ3 HJ
      obtain ⟨k, hk, rfl, HK, HJ, HB⟩ := hrel
      have hfew := HY.out.few
      by_cases hlt : k < y.f1.length
      · obtain ⟨ad, rfl, s0, s1⟩ := at_span (Kd.C_below HC1.out HB.out) k hlt
        have hmem : y.f1.getD k z60 ∈ y.f1 := by
          rw [show y.f1.getD k z60 = y.f1[k] from by simp [hlt]]; exact List.getElem_mem _
        obtain ⟨k0, k1, k2⟩ := HY.out.knot _ hmem
        obtain ⟨s, hs⟩ : ∃ s, y.f1.getD k z60 = s := ⟨_, rfl⟩
        rw [hs] at s0 s1 k0 k1 k2
        obtain ⟨lo, hlo⟩ : ∃ lo : Nat, s.f0 = lo := ⟨s.f0.toNat, by omega⟩
        obtain ⟨hi', hhi⟩ : ∃ h : Nat, s.f1 = h := ⟨s.f1.toNat, by omega⟩
        have hle : lo ≤ hi' := by omega
        have hl16 : hi' < 16 := by omega
        have hlo2 : s.f0.toNat = lo := by omega
        have hhi2 : s.f1.toNat = hi' := by omega
        rw [hlo] at s0
        rw [hhi] at s1
        have HSS := Lib.hid hs; have HLO := Lib.hid hlo2; have HHI := Lib.hid hhi2
        clear hs hlo hhi k0 k1 k2 hmem hlo2 hhi2
        have HJA := Lib.hid (blk_alloc HJ.out (.cells #[.int .i64 lo, .int .i64 hi'] 60))
        have HBA := Lib.hid (below_alloc HB.out (.cells #[.int .i64 lo, .int .i64 hi'] 60))
        have hcall := hh.call lo hi' J hle hl16
        have hent : ∀ args w, (callFunc h args).run Tryd.prog w = .ok (.enter h args) w := HENT.out
        obtain ⟨r, hr⟩ : ∃ r, hb lo hi' J = r := ⟨_, rfl⟩
        rw [hr] at hcall
        have HR := Lib.hid hr; clear hr
        cases r with
        | true =>
          go_wp2_with (first | ((with_reducible refine gate_dst (N := 34) rfl ?_); refine wpList_load_row rfl 131 _ rfl w1.heap.size rfl 131 _ _ _ HJA.out Tryd.underlying131 rfl (by kernel_rfl) ?_) | (go_at_fn h; refine (hcall _).mono ?_; rintro e w3 ⟨rfl, hb4⟩))
          go_ret
          suffices hfin : (y.f1.all fun k => !hb k.f0.toNat k.f1.toNat J) = false from ⟨by rw [hfin]; rfl, HBA.out.trans (hb4.mono (below_size HBA.out))⟩
          rw [Bool.eq_false_iff, ne_eq, List.all_eq_true]
          intro hall
          have hm : y.f1.getD k z60 ∈ y.f1 := by
            rw [show y.f1.getD k z60 = y.f1[k] from by simp [hlt]]; exact List.getElem_mem _
          have := hall _ hm
          rw [HSS.out, HLO.out, HHI.out, HR.out] at this
          cases this
        | false =>
          go_wp2_with (first | ((with_reducible refine gate_dst (N := 34) rfl ?_); refine wpList_load_row rfl 131 _ rfl w1.heap.size rfl 131 _ _ _ HJA.out Tryd.underlying131 rfl (by kernel_rfl) ?_) | (go_at_fn h; refine (hcall _).mono ?_; rintro e w3 ⟨rfl, hb4⟩))
          go_roundw
          case rel =>
            refine ⟨k + 1, by omega, by go_num, fun j hj => ?_, blk_below HJA.out hb4, HBA.out.trans (hb4.mono (below_size HBA.out))⟩
            by_cases e : j = k
            · subst e
              rw [HSS.out, HLO.out, HHI.out, HR.out]
            · exact HK.out j (by omega)
          case measure => simp [intOf]; omega
      · obtain rfl : k = y.f1.length := by omega
        go_wp2_with fail
        go_ret
        suffices hfin : (y.f1.all fun k => !hb k.f0.toNat k.f1.toNat J) = true from ⟨by rw [hfin]; rfl, HB.out⟩
        rw [List.all_eq_true]
        intro s hs
        obtain ⟨j, hj, rfl⟩ := List.getElem_of_mem hs
        have := HK.out j hj
        rw [show y.f1.getD j z60 = y.f1[j] from by simp [hj]] at this
        rw [this]; rfl
end Go.Proofs.YtekjlpldooihhaaDoorP
namespace Go.Proofs.YtekjlpldooihhaaDoorP
open Go.RowKit Go.Proofs.YtekjlpldooihhaaDoorW.PrintWords Go.Proofs.YtekjlpldooihhaaDoorW.PrintLast Go.Proofs.YtekjlpldooihhaaDoorW.PrintMore Go.Proofs.YtekjlpldooihhaaDoorH Go.Proofs.YtekjlpldooihhaaDoorEv Go.Proofs.YtekjlpldooihhaaDoor.PA
set_option linter.unusedVariables false
set_option linter.unusedSimpArgs false
def Cells (w w1 : World) : Prop := ∀ a v, w.cell? a = some v → w1.cell? a = some v
def Keeps {α : Type} (d : Kd α) : Prop := ∀ (w w1 : World) (x : α) (cs : List Value), Cells w w1 → d.K w x cs → d.K w1 x cs
theorem C_keeps {α : Type} {d : Kd α} (hd : Keeps d) {w w1 : World} (hc : Cells w w1) {A : Option Addr} {n : Nat} {l : List α} (h : d.C w A n l) : d.C w1 A n l := by
  obtain ⟨hl, h2, h3⟩ := h
  refine ⟨hl, h2, fun h0 => ?_⟩
  obtain ⟨ad, e, h1⟩ := h3 h0
  refine ⟨ad, e, fun j x hx => ?_⟩
  obtain ⟨c, c1, c2, c3⟩ := h1 j x hx
  exact ⟨c, c1, hd w w1 _ _ hc c2, fun i u hi => hc _ _ (c3 i u hi)⟩
theorem keeps_int : Keeps (Kd.int .i64) := fun _ _ _ _ _ h => h
theorem keeps_bool : Keeps Kd.bool := fun _ _ _ _ _ h => h
theorem keeps_slice {α : Type} {e : Nat} {d : Kd α} (hd : Keeps d) : Keeps (Kd.slice e d) := by
  rintro w w1 x cs hc ⟨A, c, rfl, hl, hr⟩
  exact ⟨A, c, rfl, hl, C_keeps hd hc hr⟩
theorem keeps_pair {α β : Type} {a : Kd α} {b : Kd β} (ha : Keeps a) (hb : Keeps b) : Keeps (Kd.pair a b) := by
  rintro w w1 x cs hc ⟨c1, c2, rfl, h1, h2⟩
  exact ⟨c1, c2, rfl, ha w w1 _ _ hc h1, hb w w1 _ _ hc h2⟩
theorem keeps_iso {α β : Type} {d : Kd α} {f : β → α} (hd : Keeps d) : Keeps (Kd.iso d f) := fun w w1 x cs hc h => hd w w1 _ cs hc h
theorem keeps_span : Keeps k60 := keeps_iso (keeps_pair keeps_int keeps_int)
theorem keeps_wood : Keeps k48 := keeps_iso (keeps_pair keeps_int (keeps_slice keeps_span))
theorem keeps_shape : Keeps k50 := keeps_iso (keeps_pair keeps_int (keeps_pair (keeps_slice keeps_int) keeps_bool))
def IsMap (w : World) (m : Nat) : Prop := ∃ arr clock, w.heap[m]? = some (.map arr clock)
theorem isMap {n : Nat} {w : World} {m : Nat} {f : List Int → Option Value} (h : MapFn n w m f) : IsMap w m := by
  obtain ⟨arr, clock, h1, _⟩ := h; exact ⟨arr, clock, h1⟩
theorem grown_cells {w w1 : World} {m : Nat} (hm : IsMap w m) (hg : w.grownBy w1 (some m)) : Cells w w1 := by
  intro a v h
  obtain ⟨arr, clock, h0⟩ := hm
  have hlt := World.block_lt_of_cell? w a h
  have hne : a.block ≠ m := fun e => by
    have h1 := h
    unfold World.cell? at h1
    rw [e, h0] at h1
    simp at h1
  have h2 := hg.block a.block hlt (by simpa using hne)
  unfold World.cell? at h ⊢
  rw [h2]; exact h
theorem grown_trans {A B C : World} {m : Nat} (h : A.grownBy B (some m)) (k : B.grownBy C (some m)) : A.grownBy C (some m) :=
  ⟨k.os.trans h.os, k.tape.trans h.tape, k.output.trans h.output, Nat.le_trans h.size k.size, fun i hi hr => (k.block i (Nat.lt_of_lt_of_le hi h.size) hr).trans (h.block i hi hr)⟩
theorem blk_grownM {w w1 : World} {m g : Nat} {cs : Array Value} {t : TypeId} {fr : Nat × Nat} (h : w.heap[g]? = some (.cells cs t fr)) (hm : IsMap w m) (hg : w.grownBy w1 (some m)) : w1.heap[g]? = some (.cells cs t fr) := by
  obtain ⟨arr, clock, h0⟩ := hm
  refine (hg.block g (blk_lt h) (fun e => ?_)).trans h
  cases e
  rw [h] at h0
  cases h0
theorem grown_Below {w w1 w2 : World} {m : Nat} (hb : Below w.heap.size w w1) (hm : w.heap.size ≤ m) (hg : w1.grownBy w2 (some m)) : Below w.heap.size w w2 :=
  hb.grown hg (below_size hb) (fun k e => by cases e; exact hm)
structure Glob (w : World) : Prop where
  can : w.cell? ⟨1, 0, none⟩ = some (.func (.func 131) #[] #[])
  must : w.cell? ⟨1, 1, none⟩ = some (.func (.func 133) #[] #[])
  no0 : w.cell? ⟨0, 0, none⟩ = some (.int .i64 (-1))
  no1 : w.cell? ⟨0, 1, none⟩ = some (.int .i64 (-1))
  no2 : w.cell? ⟨0, 2, none⟩ = some (.int .i64 (-1))
theorem Glob.below {w w1 : World} (h : Glob w) (hb : Below w.heap.size w w1) : Glob w1 :=
  ⟨pw_cell_below hb h.can, pw_cell_below hb h.must, pw_cell_below hb h.no0, pw_cell_below hb h.no1, pw_cell_below hb h.no2⟩
theorem Glob.cells {w w1 : World} (h : Glob w) (hc : Cells w w1) : Glob w1 := ⟨hc _ _ h.can, hc _ _ h.must, hc _ _ h.no0, hc _ _ h.no1, hc _ _ h.no2⟩
theorem eqSpot (d : Nat) (w : World) (x0 y0 x1 y1 x2 y2 : Int) :
    (Op.equalIn (d + 2) 87 (.agg #[.int .i64 x0, .int .i64 x1, .int .i64 x2]) (.agg #[.int .i64 y0, .int .i64 y1, .int .i64 y2])).run Tryd.prog w = .ok (x0 == y0 && (x1 == y1 && (x2 == y2))) w := by
  refine eqA_of Tryd.underlying87 (by kernel_rfl) ?_
  refine eqf_cons (by rfl) (by go_simp; rfl) (by go_simp; rfl) (by go_simp) ?_
  refine eqf_cons (by rfl) (by go_simp; rfl) (by go_simp; rfl) (by go_simp) ?_
  exact eqf_last (by rfl) (by go_simp; rfl) (by go_simp; rfl) (by go_simp)
theorem chkInt (em : Bool) (d : Nat) (w : World) (x : Int) : (Instr.checkKey em (d + 1) 3 (.int .i64 x)).run Tryd.prog w = .ok () w := by
  rw [Instr.checkKey]
  go_simp
theorem chkSpot (em : Bool) (d : Nat) (w : World) (x0 x1 x2 : Int) : (Instr.checkKey em (d + 1 + 1) 87 (.agg #[.int .i64 x0, .int .i64 x1, .int .i64 x2])).run Tryd.prog w = .ok () w := by
  have h := chkInt em d
  rw [Instr.checkKey]
  go_simp
theorem eqSpotL (d : Nat) (w : World) (a b : List Int) (ha : a.length = 3) (hb : b.length = 3) : (Op.equalIn (d + 2) 87 (keyA a) (keyA b)).run Tryd.prog w = .ok (decide (a = b)) w := by
  match a, ha, b, hb with
  | [a0, a1, a2], _, [b0, b1, b2], _ =>
    refine (eqSpot d w a0 b0 a1 b1 a2 b2).trans ?_
    congr 1
    rw [Bool.eq_iff_iff]
    simp
theorem spotKey : KeyEq Tryd.prog 87 3 where
  desc := ⟨_, Tryd.underlying87⟩
  check := fun em a ha w => by
    match a, ha with
    | [a0, a1, a2], _ => exact chkSpot em 9998 w a0 a1 a2
  eq := fun a b ha hb w => eqSpotL 9998 w a b ha hb
def hbK (k : Nat) : Nat → Nat → (Nat → Bool) → Bool := if k = 0 then kcanB else kmustB
def okB (y : S48) (x : S50) (a k : Nat) : Bool := soundB y x a false (hbK k) || (x.f2 && soundB y x a true (hbK k))
def canN (y : S48) (x : S50) (a : Nat) : Nat := if okB y x a 0 then 2 else if okB y x a 1 then 1 else 0
theorem canN_le (y : S48) (x : S50) (a : Nat) : canN y x a ≤ 2 := by unfold canN; split <;> (try split) <;> omega
def Memo (P : List S48) (Q : List S50) (f : List Int → Option Value) : Prop := ∀ (i p a : Nat) v, f [(i : Int), (p : Int), (a : Int)] = some v → v = .int .i64 (canN (P.getD i z48) (Q.getD p z50) a)
structure Bk (PA : Option Addr) (QA : Option Addr) (m : Nat) (P : List S48) (Q : List S50) (w : World) : Prop where
  glob : Glob w
  planks : Kd.C k48 w PA P.length P
  parts : Kd.C k50 w QA Q.length Q
  map : ∃ f, MapFn 3 w m f ∧ Memo P Q f
theorem Bk.is {PA QA : Option Addr} {m : Nat} {P : List S48} {Q : List S50} {w : World} (h : Bk PA QA m P Q w) : IsMap w m := by
  obtain ⟨_, _, _, f, h1, _⟩ := h; exact isMap h1
theorem Bk.below {PA QA : Option Addr} {m : Nat} {P : List S48} {Q : List S50} {w w1 : World} (h : Bk PA QA m P Q w) (hb : Below w.heap.size w w1) : Bk PA QA m P Q w1 := by
  obtain ⟨h1, h2, h3, f, h4, h5⟩ := h; exact ⟨h1.below hb, Kd.C_below h2 hb, Kd.C_below h3 hb, f, h4.below hb, h5⟩
theorem Bk.alloc {PA QA : Option Addr} {m : Nat} {P : List S48} {Q : List S50} {w : World} (h : Bk PA QA m P Q w) (o : Obj) : Bk PA QA m P Q (w.alloc o) := h.below (below_alloc (Below.refl w.heap.size w) o)
theorem Bk.drew {PA QA : Option Addr} {m : Nat} {P : List S48} {Q : List S50} {w : World} (h : Bk PA QA m P Q w) : Bk PA QA m P Q w.drew := h.below (Below.refl _ w).drew
theorem Bk.lt {PA QA : Option Addr} {m : Nat} {P : List S48} {Q : List S50} {w : World} (h : Bk PA QA m P Q w) : m < w.heap.size := by
  obtain ⟨_, _, _, f, h4, _⟩ := h; exact h4.lt
end Go.Proofs.YtekjlpldooihhaaDoorP
namespace Go.Proofs.YtekjlpldooihhaaDoorP
open Go.RowKit Go.Proofs.YtekjlpldooihhaaDoorW.PrintWords Go.Proofs.YtekjlpldooihhaaDoorW.PrintLast Go.Proofs.YtekjlpldooihhaaDoorW.PrintMore Go.Proofs.YtekjlpldooihhaaDoorH Go.Proofs.YtekjlpldooihhaaDoorEv Go.Proofs.YtekjlpldooihhaaDoor.PA
set_option linter.unusedVariables false
set_option linter.unusedSimpArgs false
theorem on_f (a b c : Int) : plank_on.f a b c = some (decide (b ≤ a) && decide (a ≤ c)) := by
  unfold plank_on.f
  by_cases h : b ≤ a <;> simp [h]
theorem calls_on (a b c : Int) (w : World) : Calls Tryd.prog 70 #[.int .i64 a, .int .i64 b, .int .i64 c] w fun e w' => e = .returned (.bool (decide (b ≤ a) && decide (a ≤ c))) ∧ Below w.heap.size w w' :=
  (plank_on.calls a b c _ w (on_f a b c)).mono fun e w' h => ⟨h.1, h.2.below⟩
def liesB (y : S48) (x : S50) (a : Int) : Bool := decide (0 ≤ a) && decide (a ≤ y.f0 - x.f0)
end Go.Proofs.YtekjlpldooihhaaDoorP
namespace Go.Proofs.YtekjlpldooihhaaDoorP
set_option linter.unusedSimpArgs false
open Go Go.RowKit Go.Proofs.YtekjlpldooihhaaDoorRw Go.Proofs.YtekjlpldooihhaaDoor
set_option linter.unusedVariables false
theorem gn1 : Tryd.prog.globalNamed "skewbald/plank.hits" = some 1 := by kernel_rfl
theorem gt1 : (Tryd.prog.globals[1]?).map (·.type) = some 125 := by kernel_rfl
theorem gn2 : Tryd.prog.globalNamed "skewbald/plank.nowhere" = some 0 := by kernel_rfl
theorem gt2 : (Tryd.prog.globals[0]?).map (·.type) = some 87 := by kernel_rfl
theorem named_can : Tryd.prog.funcNamed "(skewbald/plank.knot).can" = some 131 := by kernel_rfl
theorem named_must : Tryd.prog.funcNamed "(skewbald/plank.knot).must" = some 133 := by kernel_rfl
theorem utf8_inj {a b : String} (h : a.toUTF8.data.toList = b.toUTF8.data.toList) : a = b := by
  have h1 : a.toUTF8 = b.toUTF8 := by
    rcases ha : a.toUTF8 with ⟨x⟩
    rcases hb : b.toUTF8 with ⟨y⟩
    rw [ha, hb] at h
    have : x = y := by
      have := congrArg List.toArray h
      simpa using this
    rw [this]
  exact String.toByteArray_inj.1 h1
theorem token_can {t : TypeId} {v : Value} (h : funcToken Tryd.prog (t, v) = "(skewbald/plank.knot).can".toUTF8.data.toList) : v = .func (.func 131) #[] #[] := by
  have hb : ∃ b r, "(skewbald/plank.knot).can".toUTF8.data.toList = b :: r := ⟨_, _, rfl⟩
  obtain ⟨b, r, e⟩ := hb
  obtain ⟨f, fn, rfl, hfn, hnm, hn⟩ := funcToken_tells (h.trans e)
  have : fn.name = "(skewbald/plank.knot).can" := utf8_inj (hn.trans e.symm)
  rw [this, named_can] at hnm
  obtain rfl := Option.some.inj hnm
  rfl
theorem token_must {t : TypeId} {v : Value} (h : funcToken Tryd.prog (t, v) = "(skewbald/plank.knot).must".toUTF8.data.toList) : v = .func (.func 133) #[] #[] := by
  have hb : ∃ b r, "(skewbald/plank.knot).must".toUTF8.data.toList = b :: r := ⟨_, _, rfl⟩
  obtain ⟨b, r, e⟩ := hb
  obtain ⟨f, fn, rfl, hfn, hnm, hn⟩ := funcToken_tells (h.trans e)
  have : fn.name = "(skewbald/plank.knot).must" := utf8_inj (hn.trans e.symm)
  rw [this, named_must] at hnm
  obtain rfl := Option.some.inj hnm
  rfl
def canBytes : List UInt8 := [40, 115, 107, 101, 119, 98, 97, 108, 100, 47, 112, 108, 97, 110, 107, 46, 107, 110, 111, 116, 41, 46, 99, 97, 110]
def mustBytes : List UInt8 := [40, 115, 107, 101, 119, 98, 97, 108, 100, 47, 112, 108, 97, 110, 107, 46, 107, 110, 111, 116, 41, 46, 109, 117, 115, 116]
theorem canBytes_eq : canBytes = "(skewbald/plank.knot).can".toUTF8.data.toList := by rfl
theorem mustBytes_eq : mustBytes = "(skewbald/plank.knot).must".toUTF8.data.toList := by rfl
theorem list2 {α : Type} {l : List α} (h : l.length = 2) : ∃ a b, l = [a, b] := by
  match l, h with
  | [a, b], _ => exact ⟨a, b, rfl⟩
theorem list3 {α : Type} {l : List α} (h : l.length = 3) : ∃ a b c, l = [a, b, c] := by
  match l, h with
  | [a, b, c], _ => exact ⟨a, b, c, rfl⟩
theorem arr2 {α : Type} {l : Array α} (h : l.toList.length = 2) : ∃ a b, l = #[a, b] := by
  obtain ⟨a, b, e⟩ := list2 h
  exact ⟨a, b, by rw [← e]⟩
theorem arr3 {α : Type} {l : Array α} (h : l.toList.length = 3) : ∃ a b c, l = #[a, b, c] := by
  obtain ⟨a, b, c, e⟩ := list3 h
  exact ⟨a, b, c, by rw [← e]⟩
theorem trod_func' {H : Type} {enc : TypeId × Value → H} {W : World} {fuel : Nat} {v : Value} {x : DataW H × List MemPlace} (h : DataW.trod enc Tryd.prog W 0 (fun _ => true) true fuel 124 [v] = some x) : x.1 = .nil ∨ x.1 = .held (enc (124, v)) := by
  obtain ⟨v', hv, hI, rfl⟩ := func_of_trod Tryd.underlying124 h
  obtain rfl : v = v' := by simpa using hv
  cases v <;> first | (exact hI.elim; done) | exact .inl rfl | exact .inr rfl
set_option maxRecDepth 100000 in
theorem hits_of {W : World} (h : funcsAt Tryd.prog W "skewbald/plank.hits" (.agg [.iface "func" (.lit (.string canBytes)), .iface "func" (.lit (.string mustBytes))])) :
    W.cell? ⟨1, 0, none⟩ = some (.func (.func 131) #[] #[]) ∧ W.cell? ⟨1, 1, none⟩ = some (.func (.func 133) #[] #[]) := by
  obtain ⟨g, t, cs, fuel, p, hg, ht, hv, htr⟩ := h
  obtain rfl := Option.some.inj (gn1.symm.trans hg)
  obtain rfl := Option.some.inj (gt1.symm.trans ht)
  obtain ⟨xs, m, _, hx, hlen, hxl, hel⟩ := DataW.trod_array Tryd.underlying125 htr
  have hc2 : Tryd.prog.cellsOf 125 = 2 := by kernel_rfl
  have hc1 : Tryd.prog.cellsOf 124 = 1 := by kernel_rfl
  rw [hc2] at hlen
  obtain ⟨u0, u1, rfl⟩ := arr2 hlen
  obtain ⟨x0, x1, rfl⟩ := list2 hxl
  have e0 := hel 0 (by omega)
  have e1 := hel 1 (by omega)
  rw [hc1] at e0 e1
  have t0 := trod_func' (show DataW.trod _ Tryd.prog W 0 (fun _ => true) true m 124 [u0] = some x0 from e0)
  have t1 := trod_func' (show DataW.trod _ Tryd.prog W 0 (fun _ => true) true m 124 [u1] = some x1 from e1)
  have hx0 : (DataW.agg [.held canBytes, .held mustBytes] : DataW (List UInt8)) = .agg [x0.1, x1.1] := congrArg Prod.fst hx
  simp only [DataW.agg.injEq, List.cons.injEq, and_true] at hx0
  rw [← hx0.1] at t0
  rw [← hx0.2] at t1
  have v0 : u0 = .func (.func 131) #[] #[] := token_can (by rcases t0 with h | h; cases h; rw [← canBytes_eq]; exact (DataW.held.inj h).symm)
  have v1 : u1 = .func (.func 133) #[] #[] := token_must (by rcases t1 with h | h; cases h; rw [← mustBytes_eq]; exact (DataW.held.inj h).symm)
  have c0 := World.var?_cell gn1 hv 0
  have c1 := World.var?_cell gn1 hv 1
  rw [v0] at c0
  rw [v1] at c1
  exact ⟨by simpa using c0, by simpa using c1⟩
set_option maxRecDepth 100000 in
theorem nowhere_of {W : World} (h : laidMet Tryd.prog [("skewbald/plank.nowhere", .agg [.lit (.int .i64 (-1)), .lit (.int .i64 (-1)), .lit (.int .i64 (-1))])] W) :
    W.cell? ⟨0, 0, none⟩ = some (.int .i64 (-1)) ∧ W.cell? ⟨0, 1, none⟩ = some (.int .i64 (-1)) ∧ W.cell? ⟨0, 2, none⟩ = some (.int .i64 (-1)) := by
  obtain ⟨ps, ⟨g, t, cs, fuel, p, q, hg, ht, hv, htr, _, _⟩, _⟩ := h
  obtain rfl := Option.some.inj (gn2.symm.trans hg)
  obtain rfl := Option.some.inj (gt2.symm.trans ht)
  obtain ⟨xs, m, _, hx, hlen, hxl, hel⟩ := DataW.trod_struct Tryd.underlying87 htr
  have hc3 : Tryd.prog.cellsOf 87 = 3 := by kernel_rfl
  have hc1 : Tryd.prog.cellsOf 3 = 1 := by kernel_rfl
  rw [hc3] at hlen
  obtain ⟨u0, u1, u2, rfl⟩ := arr3 hlen
  obtain ⟨x0, x1, x2, rfl⟩ := list3 hxl
  have e0 := hel 0 _ rfl
  have e1 := hel 1 _ rfl
  have e2 := hel 2 _ rfl
  simp only [hc1] at e0 e1 e2
  obtain ⟨n0, h0, y0, _⟩ := DataW.trod_int Tryd.underlying3 (show DataW.trod _ Tryd.prog W 0 (fun _ => true) false m 3 [u0] = some x0 from e0)
  obtain ⟨n1, h1, y1, _⟩ := DataW.trod_int Tryd.underlying3 (show DataW.trod _ Tryd.prog W 0 (fun _ => true) false m 3 [u1] = some x1 from e1)
  obtain ⟨n2, h2, y2, _⟩ := DataW.trod_int Tryd.underlying3 (show DataW.trod _ Tryd.prog W 0 (fun _ => true) false m 3 [u2] = some x2 from e2)
  subst y0 y1 y2
  have hx0 : (DataW.agg [.lit (.int .i64 (-1)), .lit (.int .i64 (-1)), .lit (.int .i64 (-1))] : DataW Unit) = .agg [.lit (.int .i64 n0), .lit (.int .i64 n1), .lit (.int .i64 n2)] := congrArg Prod.fst hx
  simp only [DataW.agg.injEq, List.cons.injEq, and_true, DataW.lit.injEq, Lit.int.injEq, true_and] at hx0
  obtain ⟨rfl, rfl, rfl⟩ := hx0
  simp only [List.cons.injEq, and_true] at h0 h1 h2
  subst h0 h1 h2
  have c0 := World.var?_cell gn2 hv 0
  have c1 := World.var?_cell gn2 hv 1
  have c2 := World.var?_cell gn2 hv 2
  exact ⟨by simpa using c0, by simpa using c1, by simpa using c2⟩
theorem laid_data {P : Program} {l : List (String × DataW Unit)} {w : World} (h : laidMetH P l w) {x : String × DataW Unit} (hx : x ∈ l) (hs : x.2.handleName?.isSome = true) : laidMet P (l.filter fun x => x.2.handleName?.isNone) w := by
  have hm : x ∈ l.filter fun x => x.2.handleName?.isSome := List.mem_filter.2 ⟨hx, hs⟩
  unfold laidMetH at h
  generalize (l.filter fun x => x.2.handleName?.isSome) = fl at h hm
  cases fl with
  | nil => cases hm
  | cons a bs => exact h.1
theorem glob_of {l : List (String × DataW Unit)} {W : World} (hx : ("skewbald/plank.hits", Rows.laid_skewbald_plank_hits) ∈ l) (hf : (l.filter fun x => x.2.handleName?.isNone) = [("skewbald/plank.nowhere", Rows.laid_skewbald_plank_nowhere)]) (h : laidMetH Tryd.prog l W) : Glob W := by
  have h1 := hits_of (laidMetH.funcs h hx)
  have h2 := laid_data h hx rfl
  rw [hf] at h2
  have h3 := nowhere_of h2
  exact ⟨h1.1, h1.2, h3.1, h3.2.1, h3.2.2⟩
open Go.Proofs.YtekjlpldooihhaaDoor.PA (S48 S50 S60 k48 k50 k60)
def wfSpan (s : S60) : Prop := (Lit.int .i64 s.f0).wf = true ∧ (Lit.int .i64 s.f1).wf = true
def wfWood (y : S48) : Prop := (Lit.int .i64 y.f0).wf = true ∧ ∀ s ∈ y.f1, wfSpan s
def wfShape (x : S50) : Prop := (Lit.int .i64 x.f0).wf = true ∧ (∀ n ∈ x.f1, (Lit.int .i64 n).wf = true) ∧ True
theorem opens_span {H : Type} {enc : TypeId × Value → H} {W : World} : Opens enc Tryd.prog W 60 k60 wfSpan :=
  opens_iso (fun y => ⟨y.1, y.2⟩) (fun _ => rfl) (opens_two Tryd.underlying60 (by kernel_rfl) (by kernel_rfl) rfl rfl (opens_int Tryd.underlying3 (by kernel_rfl)) (opens_int Tryd.underlying3 (by kernel_rfl)))
theorem opens_wood {H : Type} {enc : TypeId × Value → H} {W : World} : Opens enc Tryd.prog W 48 k48 wfWood :=
  opens_iso (fun y => ⟨y.1, y.2⟩) (fun _ => rfl) (opens_two Tryd.underlying48 (by kernel_rfl) (by kernel_rfl) rfl rfl (opens_int Tryd.underlying3 (by kernel_rfl)) (opens_slice Tryd.underlying46 (by kernel_rfl) opens_span))
theorem opens_shape {H : Type} {enc : TypeId × Value → H} {W : World} : Opens enc Tryd.prog W 50 k50 wfShape :=
  opens_iso (fun y => ⟨y.1, y.2.1, y.2.2⟩) (fun _ => rfl) (opens_three Tryd.underlying50 (by kernel_rfl) (by kernel_rfl) rfl rfl rfl (opens_int Tryd.underlying3 (by kernel_rfl)) (opens_slice Tryd.underlying31 (by kernel_rfl) (opens_int Tryd.underlying3 (by kernel_rfl))) (opens_bool Tryd.underlying4 (by kernel_rfl)))
end Go.Proofs.YtekjlpldooihhaaDoorP
namespace Go.Proofs.YtekjlpldooihhaaDoorP
open Go.Proofs.YtekjlpldooihhaaDoorSh
open Go.RowKit Go.Proofs.YtekjlpldooihhaaDoorW.PrintWords Go.Proofs.YtekjlpldooihhaaDoorW.PrintLast Go.Proofs.YtekjlpldooihhaaDoorW.PrintMore Go.Proofs.YtekjlpldooihhaaDoorH Go.Proofs.YtekjlpldooihhaaDoorEv Go.Proofs.YtekjlpldooihhaaDoor.PA
set_option linter.unusedVariables false
set_option linter.unusedSimpArgs false
structure Sized (y : S48) (x : S50) : Prop where
  w1 : 1 ≤ y.f0
  w16 : y.f0 ≤ 16
  s1 : 1 ≤ x.f0
  s12 : x.f0 ≤ 12
set_option maxRecDepth 100000 in
set_option maxHeartbeats 1000000 in
theorem calls_lies (PA : Option Addr) (pc : Nat) (QA : Option Addr) (qc m : Nat) (P : List S48) (Q : List S50) (i p : Nat) (a : Int) (hi : i < P.length) (hp : p < Q.length) (hz : Sized (P.getD i z48) (Q.getD p z50)) (w : World) (hP : Kd.C k48 w PA P.length P) (hQ : Kd.C k50 w QA Q.length Q) :
    Calls Tryd.prog 63 #[.agg (bookV PA P.length pc QA Q.length qc m), .agg #[.int .i64 i, .int .i64 p, .int .i64 a]] w fun e w' =>
      e = .returned (.bool (liesB (P.getD i z48) (Q.getD p z50) a)) ∧ Below w.heap.size w w' := by
  obtain ⟨n0, n1, n2, n3⟩ := new2 w (.cells #[.slice PA P.length pc, .slice QA Q.length qc, .map (some m)] 84) (.cells #[.int .i64 i, .int .i64 p, .int .i64 a] 87)
  obtain ⟨pa, B1, d1, rfl, e0, -, -, -⟩ := at_wood hP i hi
  obtain ⟨qa, B2, d2, rfl, f0, -, -, -, -⟩ := at_shape hQ p hp
  obtain ⟨y, hy⟩ : ∃ y, P.getD i z48 = y := ⟨_, rfl⟩
  obtain ⟨x, hx⟩ : ∃ x, Q.getD p z50 = x := ⟨_, rfl⟩
  rw [hy] at e0 hz ⊢
  rw [hx] at f0 hz ⊢
  obtain ⟨z1, z2, z3, z4⟩ := hz
  obtain ⟨a0, a1, b0, b1, b2⟩ : ((w.alloc (.cells #[.slice (some pa) P.length pc, .slice (some qa) Q.length qc, .map (some m)] 84)).alloc (.cells #[.int .i64 i, .int .i64 p, .int .i64 a] 87)).cell? ⟨w.heap.size, 0, none⟩ = some (.slice (some pa) P.length pc) ∧ ((w.alloc (.cells #[.slice (some pa) P.length pc, .slice (some qa) Q.length qc, .map (some m)] 84)).alloc (.cells #[.int .i64 i, .int .i64 p, .int .i64 a] 87)).cell? ⟨w.heap.size, 1, none⟩ = some (.slice (some qa) Q.length qc) ∧ ((w.alloc (.cells #[.slice (some pa) P.length pc, .slice (some qa) Q.length qc, .map (some m)] 84)).alloc (.cells #[.int .i64 i, .int .i64 p, .int .i64 a] 87)).cell? ⟨w.heap.size + 1, 0, none⟩ = some (.int .i64 i) ∧ ((w.alloc (.cells #[.slice (some pa) P.length pc, .slice (some qa) Q.length qc, .map (some m)] 84)).alloc (.cells #[.int .i64 i, .int .i64 p, .int .i64 a] 87)).cell? ⟨w.heap.size + 1, 1, none⟩ = some (.int .i64 p) ∧ ((w.alloc (.cells #[.slice (some pa) P.length pc, .slice (some qa) Q.length qc, .map (some m)] 84)).alloc (.cells #[.int .i64 i, .int .i64 p, .int .i64 a] 87)).cell? ⟨w.heap.size + 1, 2, none⟩ = some (.int .i64 a) := ⟨blk_cell n0 0, blk_cell n0 1, blk_cell n1 0, blk_cell n1 1, blk_cell n1 2⟩
  have c0 := pw_cell_below n2 e0; have c1 := pw_cell_below n2 f0
  have HB := Lib.hid n2
  have hi2 : (i : Int) < (P.length : Int) := by omega
  have hp2 : (p : Int) < (Q.length : Int) := by omega
  have hw : wrap64 (y.f0 - x.f0) = y.f0 - x.f0 := by unfold wrap64; omega
  clear n0 n1 n2 n3 e0 f0 hP hQ hx hy
  obtain ⟨Y, hY⟩ : ∃ Y, y.f0 = Y := ⟨_, rfl⟩
  obtain ⟨X, hX⟩ : ∃ X, x.f0 = X := ⟨_, rfl⟩
  unfold liesB
  rw [hY] at c0 z1 z2 hw ⊢
  rw [hX] at c1 z3 z4 hw ⊢
  clear hY hX
  go_enter Tryd.func63, Tryd.ntmps63
  unfold bookV
  go_wp2_with fail
  refine start_ (n := 21) (S := fun w' => w'.cell? ⟨w.heap.size, 0, none⟩ = some (.slice (some pa) P.length pc) ∧ w'.cell? ⟨w.heap.size, 1, none⟩ = some (.slice (some qa) Q.length qc) ∧ w'.cell? ⟨w.heap.size + 1, 0, none⟩ = some (.int .i64 i) ∧ w'.cell? ⟨w.heap.size + 1, 1, none⟩ = some (.int .i64 p) ∧ w'.cell? ⟨w.heap.size + 1, 2, none⟩ = some (.int .i64 a) ∧ w'.cell? (pa.add (i * 2)) = some (.int .i64 Y) ∧ w'.cell? (qa.add (p * 3)) = some (.int .i64 X)) (ds := [19]) #[false, false, false, false, false, false, false, false, false, false, false, false, false, false, false, false, false, false, false, false, false] (by kernel_rfl) rfl rfl ⟨a0, a1, b0, b1, b2, c0, c1⟩ (fun hHeld => ?_)
  refine pu_ (i := 0) (N := some 5) (qa_ 21 1) ?_
  refine pu_ (i := 2) (N := some 7) (qa_ 21 5) ?_
  refine pu_ (i := 3) (N := some 8) (qa_ 21 13) ?_
  refine pu_ (i := 5) (N := some 10) (qa_ 21 45) ?_
  refine pu_ (i := 10) (N := some 15) (qa_ 21 1069) ?_
  refine pu_ (i := 11) (N := some 16) (qa_ 21 3117) ?_
  refine pu_ (i := 13) (N := some 18) (qa_ 21 11309) ?_
  refine tk_ (i := 1) (N := some 6) (qa_ 21 11311) hHeld ?_
  refine tk_ (i := 4) (N := some 9) (qa_ 21 11327) hHeld ?_
  refine tk_ (i := 6) (N := some 11) (qa_ 21 11391) hHeld ?_
  refine pu_ (i := 7) (N := some 12) (qa_ 21 11519) ?_
  refine pu_ (i := 8) (N := some 13) (qa_ 21 11775) ?_
  refine tk_ (i := 9) (N := some 14) (qa_ 21 12287) hHeld ?_
  refine tk_ (i := 12) (N := some 17) (qa_ 21 16383) hHeld ?_
  refine tk_ (i := 14) (N := some 19) (qa_ 21 32767) hHeld ?_
  refine pu_ (i := 15) (N := some 20) (qa_ 21 65535) ?_
  refine pu_ (i := 16) (N := some 21) (qa_ 21 131071) ?_
  refine tk_ (i := 17) (N := some 22) (qa_ 21 262143) hHeld ?_
  refine pu_ (i := 18) (N := some 23) (qa_ 21 524287) ?_
  refine last_ (i := 19) (N := some 24) (qa_ 21 1048575) rfl rfl (by kernel_rfl) (by decide) (fun K hK => ?_)
  refine goes_ Tryd.func70 (by kernel_rfl) rfl #[.int .i64 a, .int .i64 0, .int .i64 (wrap64 (Y - X))] (by rfl) rfl rfl (by first | (simp; done) | (simp only [List.map_toArray, List.map_cons, List.map_nil]; rfl)) ?_
  with_reducible refine (calls_on _ _ _ _).mono ?_
  rintro e w1 ⟨rfl, hb1⟩
  refine ⟨_, rfl, ?_⟩
  refine hK.out _ _ ?_
  clear hK K
  refine nm_ (some 24) ?_
  refine pu_ (i := 20) (N := some 4) (qa_ 21 2097151) ?_
  refine done_ (by kernel_rfl) ?_
  go_wp2_with fail
  go_ret
  exact ⟨by first | (rw [hw]; rfl) | (rw [← hw]; rfl) | simp [hw], HB.out.trans ((undrew hb1).mono (by simp; omega))⟩
theorem ite2_0 {c : Nat} {A B : Bool} (h : c = if A = true then 2 else if B = true then 1 else 0) (ha : A = true) : c = 2 := by rw [h, ha]; rfl
theorem ite2_1 {c : Nat} {A B : Bool} (h : c = if A = true then 2 else if B = true then 1 else 0) (ha : A = false) (hb : B = true) : c = 1 := by rw [h, ha, hb]; rfl
theorem ite2_2 {c : Nat} {A B : Bool} (h : c = if A = true then 2 else if B = true then 1 else 0) (ha : A = false) (hb : B = false) : c = 0 := by rw [h, ha, hb]; rfl
theorem hit_k0 : Hit 131 (hbK 0) := hit_can
theorem hit_k1 : Hit 133 (hbK 1) := hit_must
set_option maxRecDepth 100000 in
set_option maxHeartbeats 2000000 in
theorem calls_bcan (PA : Option Addr) (pc : Nat) (QA : Option Addr) (qc m : Nat) (P : List S48) (Q : List S50) (i p a : Nat) (hi : i < P.length) (hp : p < Q.length) (hy : WoodOk (P.getD i z48)) (hx : Fits (Q.getD p z50) a) (w : World) (hB : Bk PA QA m P Q w) :
    Calls Tryd.prog 64 #[.agg (bookV PA P.length pc QA Q.length qc m), .agg #[.int .i64 i, .int .i64 p, .int .i64 a]] w fun e w' =>
      e = .returned (.int .i64 (canN (P.getD i z48) (Q.getD p z50) a : Nat)) ∧ Bk PA QA m P Q w' ∧ w.grownBy w' (some m) := by
  have hB0 := hB
  obtain ⟨hG, hP, hQ, f, hM, hf⟩ := hB
  obtain ⟨pa, B1, d1, rfl, -, -, -, -⟩ := at_wood hP i hi
  obtain ⟨qa, B2, d2, rfl, -, -, e2, -, -⟩ := at_shape hQ p hp
  have hmlt : m < w.heap.size := hM.lt
  have hlk := fun W (h : MapFn 3 W m f) => run_lookup_fn 82 3 Tryd.underlying82 spotKey (z := .int .i64 0) (fun w => by kernel_rfl) h [(i : Int), (p : Int), (a : Int)] rfl true
  have heq : ∀ W, (Op.equalIn 10000 87 (.agg #[.int .i64 i, .int .i64 p, .int .i64 a]) (.agg #[.int .i64 (-1), .int .i64 (-1), .int .i64 (-1)])).run Tryd.prog W = .ok false W := fun W => (eqSpot 9998 W _ _ _ _ _ _).trans (by
    have : ((i : Int) == -1) = false := by simp
    rw [this, Bool.false_and])
  obtain ⟨n0, n1, n2, n3⟩ := new2 w (.cells #[.slice (some pa) P.length pc, .slice (some qa) Q.length qc, .map (some m)] 84) (.cells #[.int .i64 i, .int .i64 p, .int .i64 a] 87)
  have hMW := hM.below n2
  obtain ⟨hn0, hn1, hn2⟩ : w.cell? ⟨0, 0, none⟩ = some (.int .i64 (-1)) ∧ w.cell? ⟨0, 1, none⟩ = some (.int .i64 (-1)) ∧ w.cell? ⟨0, 2, none⟩ = some (.int .i64 (-1)) := ⟨hG.no0, hG.no1, hG.no2⟩
  have hlt : 0 < w.heap.size := World.block_lt_of_cell? w _ hn0
  have hlt1 : 0 < w.heap.size + 1 := by omega
  have hl2 := hlk _ hMW
  clear hlk
  have HX := Lib.hid n0; have HS := Lib.hid n1; have HB := Lib.hid n2
  have HG := Lib.hid hG; have HP := Lib.hid hP; have HQ := Lib.hid hQ; have HM := Lib.hid hM; have HF := Lib.hid hf; have HMW := Lib.hid hMW; have HY := Lib.hid hy; have HX0 := Lib.hid hx; have HE := Lib.hid e2; have HB0 := Lib.hid hB0
  clear n0 n1 n2 hG hP hQ hM hf hMW hy hx e2 hB0
  cases hfk : f [(i : Int), (p : Int), (a : Int)] with
  | some v =>
    obtain rfl := HF.out i p a v hfk
    rw [hfk] at hl2
    clear hfk
    have hl3 : (Instr.lookup 82 (.map (some m)) (.agg #[.int .i64 i, .int .i64 p, .int .i64 a]) true).run Tryd.prog ((w.alloc (.cells #[.slice (some pa) P.length pc, .slice (some qa) Q.length qc, .map (some m)] 84)).alloc (.cells #[.int .i64 i, .int .i64 p, .int .i64 a] 87)) = .ok (.tuple #[.int .i64 (canN (P.getD i z48) (Q.getD p z50) a : Nat), .bool true]) ((w.alloc (.cells #[.slice (some pa) P.length pc, .slice (some qa) Q.length qc, .map (some m)] 84)).alloc (.cells #[.int .i64 i, .int .i64 p, .int .i64 a] 87)) := hl2
    clear hl2
    generalize (canN (P.getD i z48) (Q.getD p z50) a) = cn at hl3 ⊢
    go_enter Tryd.func64, Tryd.ntmps64
    unfold bookV
    go_wp2
    go_ret
    exact ⟨rfl, HB0.out.below HB.out, grown_of_below HB.out _⟩
  | none =>
    rw [hfk] at hl2
    clear hfk
    have hl3 : (Instr.lookup 82 (.map (some m)) (.agg #[.int .i64 i, .int .i64 p, .int .i64 a]) true).run Tryd.prog ((w.alloc (.cells #[.slice (some pa) P.length pc, .slice (some qa) Q.length qc, .map (some m)] 84)).alloc (.cells #[.int .i64 i, .int .i64 p, .int .i64 a] 87)) = .ok (.tuple #[.int .i64 0, .bool false]) ((w.alloc (.cells #[.slice (some pa) P.length pc, .slice (some qa) Q.length qc, .map (some m)] 84)).alloc (.cells #[.int .i64 i, .int .i64 p, .int .i64 a] 87)) := hl2
    clear hl2
    have HC0 := Lib.hid (show canN (P.getD i z48) (Q.getD p z50) a = (if okB (P.getD i z48) (Q.getD p z50) a 0 then 2 else if okB (P.getD i z48) (Q.getD p z50) a 1 then 1 else 0) from rfl)
    obtain ⟨cn, hcn⟩ : ∃ cn, canN (P.getD i z48) (Q.getD p z50) a = cn := ⟨_, rfl⟩
    have HCN := Lib.hid hcn
    rw [hcn] at HC0 ⊢
    clear hcn
    have HMU := Lib.hid (show ∀ (W : World), Below w.heap.size w W → ∀ n : Int, ∃ w1, (Instr.mapUpdate 82 (.map (some m)) (.agg #[.int .i64 i, .int .i64 p, .int .i64 a]) (.int .i64 n)).run Tryd.prog W = .ok () w1 ∧ MapFn 3 w1 m (fun ls => if ls = [(i : Int), (p : Int), (a : Int)] then some (.int .i64 n) else f ls) ∧ W.grownBy w1 (some m) from fun W hb n => run_mapUpdate_fn 82 3 Tryd.underlying82 spotKey (HM.out.below hb) [(i : Int), (p : Int), (a : Int)] rfl (.int .i64 n))
    have HEND := Lib.hid (show ∀ (W w9 : World), Below w.heap.size w W → MapFn 3 w9 m (fun ls => if ls = [(i : Int), (p : Int), (a : Int)] then some (.int .i64 (cn : Nat)) else f ls) → W.grownBy w9 (some m) → Bk (some pa) (some qa) m P Q w9 ∧ w.grownBy w9 (some m) from fun W w9 hb hM9 hg => by
      have hbw := HB0.out.below hb
      have hc := grown_cells hbw.is hg
      refine ⟨⟨hbw.glob.cells hc, C_keeps keeps_wood hc hbw.planks, C_keeps keeps_shape hc hbw.parts, _, hM9, ?_⟩, grown_trans (grown_of_below hb _) hg⟩
      intro i' p' a' v hv
      simp only [List.cons.injEq, and_true] at hv
      split at hv
      · rename_i he
        obtain ⟨e1, e2, e3⟩ := he
        obtain rfl : i' = i := by omega
        obtain rfl : p' = p := by omega
        obtain rfl : a' = a := by omega
        rw [HCN.out]
        exact (Option.some.inj hv).symm
      · exact HF.out i' p' a' v hv)
    go_enter Tryd.func64, Tryd.ntmps64
    unfold bookV
    obtain ⟨gl0, gl1⟩ : w.cell? ⟨1, 0, none⟩ = some (.func (.func 131) #[] #[]) ∧ w.cell? ⟨1, 1, none⟩ = some (.func (.func 133) #[] #[]) := ⟨HG.out.can, HG.out.must⟩
    have hglt : 1 < w.heap.size := World.block_lt_of_cell? w _ gl0
    have hglt1 : 1 < w.heap.size + 1 := by omega
    go_wp2_with fail
    obtain ⟨n0, n1, n2, n3⟩ := new2 w (.cells #[.slice (some pa) P.length pc, .slice (some qa) Q.length qc, .map (some m)] 84) (.cells #[.int .i64 i, .int .i64 p, .int .i64 a] 87)
    have hix0 : ∀ W, (Instr.index 125 (.agg #[.func (.func 131) #[] #[], .func (.func 133) #[] #[]]) (.int .i64 0)).run Tryd.prog W = .ok (.func (.func 131) #[] #[]) W := fun W => by kernel_rfl
    have hix1 : ∀ W, (Instr.index 125 (.agg #[.func (.func 131) #[] #[], .func (.func 133) #[] #[]]) (.int .i64 1)).run Tryd.prog W = .ok (.func (.func 133) #[] #[]) W := fun W => by kernel_rfl
    clear n0 n1 n2 hl3 HMW heq hn0 hn1 hn2 gl0 gl1
    go_loopw [5, 24] (fun v5 v wr => v5 = .int .i64 0 ∧ (v = .int .i64 0 ∨ (v = .int .i64 1 ∧ Hid (okB (P.getD i z48) (Q.getD p z50) a 0 = false)) ∨ (v = .int .i64 2 ∧ Hid (okB (P.getD i z48) (Q.getD p z50) a 0 = false) ∧ Hid (okB (P.getD i z48) (Q.getD p z50) a 1 = false))) ∧ Hid (wr.heap[w.heap.size]? = some (.cells #[.slice (some pa) P.length pc, .slice (some qa) Q.length qc, .map (some m)] 84 (0, 0))) ∧ Hid (wr.heap[w.heap.size + 1]? = some (.cells #[.int .i64 i, .int .i64 p, .int .i64 a] 87 (0, 0))) ∧ Hid (Below w.heap.size w wr)) (fun _ v _ => 2 - (intOf v).toNat)
    case atStart => exact ⟨rfl, .inl rfl, HX, HS, HB⟩
    case round =>
      clear HX HS HB n3
      obtain ⟨rfl, hv, HX, HS, HB⟩ := hrel
      obtain ⟨c0, c1, c2⟩ : wr.cell? ⟨w.heap.size, 0, none⟩ = some (.slice (some pa) P.length pc) ∧ wr.cell? ⟨w.heap.size, 1, none⟩ = some (.slice (some qa) Q.length qc) ∧ wr.cell? ⟨w.heap.size, 2, none⟩ = some (.map (some m)) := ⟨blk_cell HX.out 0, blk_cell HX.out 1, blk_cell HX.out 2⟩
      obtain ⟨t0, t1, t2⟩ : wr.cell? ⟨w.heap.size + 1, 0, none⟩ = some (.int .i64 i) ∧ wr.cell? ⟨w.heap.size + 1, 1, none⟩ = some (.int .i64 p) ∧ wr.cell? ⟨w.heap.size + 1, 2, none⟩ = some (.int .i64 a) := ⟨blk_cell HS.out 0, blk_cell HS.out 1, blk_cell HS.out 2⟩
      have c3 := pw_cell_below HB.out HE.out
      rcases hv with rfl | ⟨rfl, HN0⟩ | ⟨rfl, HN0, HN1⟩
      · have hok : okB (P.getD i z48) (Q.getD p z50) a 0 = (soundB (P.getD i z48) (Q.getD p z50) a false (hbK 0) || ((Q.getD p z50).f2 && soundB (P.getD i z48) (Q.getD p z50) a true (hbK 0))) := rfl
        have HCfalse := Lib.hid (show ∀ W, Below w.heap.size w W → Calls Tryd.prog 98 #[.agg #[.slice (some pa) P.length pc, .slice (some qa) Q.length qc, .map (some m)], .agg #[.int .i64 i, .int .i64 p, .int .i64 a], .bool false, .func (.func 131) #[] #[]] W fun e w' => e = .returned (.bool (soundB (P.getD i z48) (Q.getD p z50) a false (hbK 0))) ∧ Below W.heap.size W w' from fun W hb => calls_sound (some pa) pc (some qa) qc m P Q i p a false 131 (hbK 0) hit_k0 hi hp HY.out HX0.out _ (Kd.C_below HP.out hb) (Kd.C_below HQ.out hb))
        have HCtrue := Lib.hid (show ∀ W, Below w.heap.size w W → Calls Tryd.prog 98 #[.agg #[.slice (some pa) P.length pc, .slice (some qa) Q.length qc, .map (some m)], .agg #[.int .i64 i, .int .i64 p, .int .i64 a], .bool true, .func (.func 131) #[] #[]] W fun e w' => e = .returned (.bool (soundB (P.getD i z48) (Q.getD p z50) a true (hbK 0))) ∧ Below W.heap.size W w' from fun W hb => calls_sound (some pa) pc (some qa) qc m P Q i p a true 131 (hbK 0) hit_k0 hi hp HY.out HX0.out _ (Kd.C_below HP.out hb) (Kd.C_below HQ.out hb))
        cases hA : soundB (P.getD i z48) (Q.getD p z50) a false (hbK 0) with
        | true =>
          have HOK := Lib.hid (show okB (P.getD i z48) (Q.getD p z50) a 0 = true by rw [hok, hA, Bool.true_or])
          clear hok
          go_wp2_with (go_at_call 98; (with_reducible refine (HCfalse.out _ HB.out).mono ?_); rintro e w1 ⟨he, hb⟩; rw [hA] at he; subst he; have HX := Lib.hid (below_far HX.out hb); have HS := Lib.hid (below_far HS.out hb); have HB := Lib.hid (HB.out.trans (hb.mono (below_size HB.out))); clear hb; obtain ⟨c0, c1, c2⟩ : w1.cell? ⟨w.heap.size, 0, none⟩ = some (.slice (some pa) P.length pc) ∧ w1.cell? ⟨w.heap.size, 1, none⟩ = some (.slice (some qa) Q.length qc) ∧ w1.cell? ⟨w.heap.size, 2, none⟩ = some (.map (some m)) := ⟨blk_cell HX.out 0, blk_cell HX.out 1, blk_cell HX.out 2⟩; obtain ⟨t0, t1, t2⟩ : w1.cell? ⟨w.heap.size + 1, 0, none⟩ = some (.int .i64 i) ∧ w1.cell? ⟨w.heap.size + 1, 1, none⟩ = some (.int .i64 p) ∧ w1.cell? ⟨w.heap.size + 1, 2, none⟩ = some (.int .i64 a) := ⟨blk_cell HS.out 0, blk_cell HS.out 1, blk_cell HS.out 2⟩; have c3 := pw_cell_below HB.out HE.out; obtain ⟨w9, hmu, hM9, hg9⟩ := HMU.out w1 HB.out 2; have HM9 := Lib.hid hM9; have HG9 := Lib.hid hg9; clear hM9 hg9)
          go_ret
          have hcn : cn = 2 := ite2_0 HC0.out HOK.out
          rw [hcn] at HEND ⊢
          exact ⟨rfl, HEND.out _ _ HB.out HM9.out HG9.out⟩
        | false =>
          rw [hA, Bool.false_or] at hok
          cases hT : (Q.getD p z50).f2 with
          | false =>
            have HOK := Lib.hid (show okB (P.getD i z48) (Q.getD p z50) a 0 = false by rw [hok, hT, Bool.false_and])
            rw [hT] at HE c3
            clear hok
            go_wp2_with (go_at_call 98; (with_reducible refine (HCfalse.out _ HB.out).mono ?_); rintro e w1 ⟨he, hb⟩; rw [hA] at he; subst he; have HX := Lib.hid (below_far HX.out hb); have HS := Lib.hid (below_far HS.out hb); have HB := Lib.hid (HB.out.trans (hb.mono (below_size HB.out))); clear hb; obtain ⟨c0, c1, c2⟩ : w1.cell? ⟨w.heap.size, 0, none⟩ = some (.slice (some pa) P.length pc) ∧ w1.cell? ⟨w.heap.size, 1, none⟩ = some (.slice (some qa) Q.length qc) ∧ w1.cell? ⟨w.heap.size, 2, none⟩ = some (.map (some m)) := ⟨blk_cell HX.out 0, blk_cell HX.out 1, blk_cell HX.out 2⟩; obtain ⟨t0, t1, t2⟩ : w1.cell? ⟨w.heap.size + 1, 0, none⟩ = some (.int .i64 i) ∧ w1.cell? ⟨w.heap.size + 1, 1, none⟩ = some (.int .i64 p) ∧ w1.cell? ⟨w.heap.size + 1, 2, none⟩ = some (.int .i64 a) := ⟨blk_cell HS.out 0, blk_cell HS.out 1, blk_cell HS.out 2⟩; have c3 := pw_cell_below HB.out HE.out)
            go_roundw
            case rel => exact ⟨rfl, .inr (.inl ⟨by go_num, HOK⟩), HX, HS, HB⟩
            case measure => simp [intOf]
          | true =>
            rw [hT, Bool.true_and] at hok
            rw [hT] at HE c3
            cases hC : soundB (P.getD i z48) (Q.getD p z50) a true (hbK 0) with
            | true =>
              have HOK := Lib.hid (hok.trans hC)
              clear hok
              go_wp2_with (first | (go_at_call 98; (with_reducible refine (HCfalse.out _ HB.out).mono ?_); rintro e w1 ⟨he, hb⟩; rw [hA] at he; subst he; have HX := Lib.hid (below_far HX.out hb); have HS := Lib.hid (below_far HS.out hb); have HB := Lib.hid (HB.out.trans (hb.mono (below_size HB.out))); clear hb; obtain ⟨c0, c1, c2⟩ : w1.cell? ⟨w.heap.size, 0, none⟩ = some (.slice (some pa) P.length pc) ∧ w1.cell? ⟨w.heap.size, 1, none⟩ = some (.slice (some qa) Q.length qc) ∧ w1.cell? ⟨w.heap.size, 2, none⟩ = some (.map (some m)) := ⟨blk_cell HX.out 0, blk_cell HX.out 1, blk_cell HX.out 2⟩; obtain ⟨t0, t1, t2⟩ : w1.cell? ⟨w.heap.size + 1, 0, none⟩ = some (.int .i64 i) ∧ w1.cell? ⟨w.heap.size + 1, 1, none⟩ = some (.int .i64 p) ∧ w1.cell? ⟨w.heap.size + 1, 2, none⟩ = some (.int .i64 a) := ⟨blk_cell HS.out 0, blk_cell HS.out 1, blk_cell HS.out 2⟩; have c3 := pw_cell_below HB.out HE.out) | (go_at_call 98; (with_reducible refine (HCtrue.out _ HB.out).mono ?_); rintro e w2 ⟨he, hb⟩; rw [hC] at he; subst he; have HX := Lib.hid (below_far HX.out hb); have HS := Lib.hid (below_far HS.out hb); have HB := Lib.hid (HB.out.trans (hb.mono (below_size HB.out))); clear hb; obtain ⟨c0, c1, c2⟩ : w2.cell? ⟨w.heap.size, 0, none⟩ = some (.slice (some pa) P.length pc) ∧ w2.cell? ⟨w.heap.size, 1, none⟩ = some (.slice (some qa) Q.length qc) ∧ w2.cell? ⟨w.heap.size, 2, none⟩ = some (.map (some m)) := ⟨blk_cell HX.out 0, blk_cell HX.out 1, blk_cell HX.out 2⟩; obtain ⟨t0, t1, t2⟩ : w2.cell? ⟨w.heap.size + 1, 0, none⟩ = some (.int .i64 i) ∧ w2.cell? ⟨w.heap.size + 1, 1, none⟩ = some (.int .i64 p) ∧ w2.cell? ⟨w.heap.size + 1, 2, none⟩ = some (.int .i64 a) := ⟨blk_cell HS.out 0, blk_cell HS.out 1, blk_cell HS.out 2⟩; have c3 := pw_cell_below HB.out HE.out; obtain ⟨w9, hmu, hM9, hg9⟩ := HMU.out w2 HB.out 2; have HM9 := Lib.hid hM9; have HG9 := Lib.hid hg9; clear hM9 hg9))
              go_ret
              have hcn : cn = 2 := ite2_0 HC0.out HOK.out
              rw [hcn] at HEND ⊢
              exact ⟨rfl, HEND.out _ _ HB.out HM9.out HG9.out⟩
            | false =>
              have HOK := Lib.hid (hok.trans hC)
              clear hok
              go_wp2_with (first | (go_at_call 98; (with_reducible refine (HCfalse.out _ HB.out).mono ?_); rintro e w1 ⟨he, hb⟩; rw [hA] at he; subst he; have HX := Lib.hid (below_far HX.out hb); have HS := Lib.hid (below_far HS.out hb); have HB := Lib.hid (HB.out.trans (hb.mono (below_size HB.out))); clear hb; obtain ⟨c0, c1, c2⟩ : w1.cell? ⟨w.heap.size, 0, none⟩ = some (.slice (some pa) P.length pc) ∧ w1.cell? ⟨w.heap.size, 1, none⟩ = some (.slice (some qa) Q.length qc) ∧ w1.cell? ⟨w.heap.size, 2, none⟩ = some (.map (some m)) := ⟨blk_cell HX.out 0, blk_cell HX.out 1, blk_cell HX.out 2⟩; obtain ⟨t0, t1, t2⟩ : w1.cell? ⟨w.heap.size + 1, 0, none⟩ = some (.int .i64 i) ∧ w1.cell? ⟨w.heap.size + 1, 1, none⟩ = some (.int .i64 p) ∧ w1.cell? ⟨w.heap.size + 1, 2, none⟩ = some (.int .i64 a) := ⟨blk_cell HS.out 0, blk_cell HS.out 1, blk_cell HS.out 2⟩; have c3 := pw_cell_below HB.out HE.out) | (go_at_call 98; (with_reducible refine (HCtrue.out _ HB.out).mono ?_); rintro e w2 ⟨he, hb⟩; rw [hC] at he; subst he; have HX := Lib.hid (below_far HX.out hb); have HS := Lib.hid (below_far HS.out hb); have HB := Lib.hid (HB.out.trans (hb.mono (below_size HB.out))); clear hb; obtain ⟨c0, c1, c2⟩ : w2.cell? ⟨w.heap.size, 0, none⟩ = some (.slice (some pa) P.length pc) ∧ w2.cell? ⟨w.heap.size, 1, none⟩ = some (.slice (some qa) Q.length qc) ∧ w2.cell? ⟨w.heap.size, 2, none⟩ = some (.map (some m)) := ⟨blk_cell HX.out 0, blk_cell HX.out 1, blk_cell HX.out 2⟩; obtain ⟨t0, t1, t2⟩ : w2.cell? ⟨w.heap.size + 1, 0, none⟩ = some (.int .i64 i) ∧ w2.cell? ⟨w.heap.size + 1, 1, none⟩ = some (.int .i64 p) ∧ w2.cell? ⟨w.heap.size + 1, 2, none⟩ = some (.int .i64 a) := ⟨blk_cell HS.out 0, blk_cell HS.out 1, blk_cell HS.out 2⟩; have c3 := pw_cell_below HB.out HE.out))
              go_roundw
              case rel => exact ⟨rfl, .inr (.inl ⟨by go_num, HOK⟩), HX, HS, HB⟩
              case measure => simp [intOf]
      · have hok : okB (P.getD i z48) (Q.getD p z50) a 1 = (soundB (P.getD i z48) (Q.getD p z50) a false (hbK 1) || ((Q.getD p z50).f2 && soundB (P.getD i z48) (Q.getD p z50) a true (hbK 1))) := rfl
        have HCfalse := Lib.hid (show ∀ W, Below w.heap.size w W → Calls Tryd.prog 98 #[.agg #[.slice (some pa) P.length pc, .slice (some qa) Q.length qc, .map (some m)], .agg #[.int .i64 i, .int .i64 p, .int .i64 a], .bool false, .func (.func 133) #[] #[]] W fun e w' => e = .returned (.bool (soundB (P.getD i z48) (Q.getD p z50) a false (hbK 1))) ∧ Below W.heap.size W w' from fun W hb => calls_sound (some pa) pc (some qa) qc m P Q i p a false 133 (hbK 1) hit_k1 hi hp HY.out HX0.out _ (Kd.C_below HP.out hb) (Kd.C_below HQ.out hb))
        have HCtrue := Lib.hid (show ∀ W, Below w.heap.size w W → Calls Tryd.prog 98 #[.agg #[.slice (some pa) P.length pc, .slice (some qa) Q.length qc, .map (some m)], .agg #[.int .i64 i, .int .i64 p, .int .i64 a], .bool true, .func (.func 133) #[] #[]] W fun e w' => e = .returned (.bool (soundB (P.getD i z48) (Q.getD p z50) a true (hbK 1))) ∧ Below W.heap.size W w' from fun W hb => calls_sound (some pa) pc (some qa) qc m P Q i p a true 133 (hbK 1) hit_k1 hi hp HY.out HX0.out _ (Kd.C_below HP.out hb) (Kd.C_below HQ.out hb))
        cases hA : soundB (P.getD i z48) (Q.getD p z50) a false (hbK 1) with
        | true =>
          have HOK := Lib.hid (show okB (P.getD i z48) (Q.getD p z50) a 1 = true by rw [hok, hA, Bool.true_or])
          clear hok
          go_wp2_with (go_at_call 98; (with_reducible refine (HCfalse.out _ HB.out).mono ?_); rintro e w1 ⟨he, hb⟩; rw [hA] at he; subst he; have HX := Lib.hid (below_far HX.out hb); have HS := Lib.hid (below_far HS.out hb); have HB := Lib.hid (HB.out.trans (hb.mono (below_size HB.out))); clear hb; obtain ⟨c0, c1, c2⟩ : w1.cell? ⟨w.heap.size, 0, none⟩ = some (.slice (some pa) P.length pc) ∧ w1.cell? ⟨w.heap.size, 1, none⟩ = some (.slice (some qa) Q.length qc) ∧ w1.cell? ⟨w.heap.size, 2, none⟩ = some (.map (some m)) := ⟨blk_cell HX.out 0, blk_cell HX.out 1, blk_cell HX.out 2⟩; obtain ⟨t0, t1, t2⟩ : w1.cell? ⟨w.heap.size + 1, 0, none⟩ = some (.int .i64 i) ∧ w1.cell? ⟨w.heap.size + 1, 1, none⟩ = some (.int .i64 p) ∧ w1.cell? ⟨w.heap.size + 1, 2, none⟩ = some (.int .i64 a) := ⟨blk_cell HS.out 0, blk_cell HS.out 1, blk_cell HS.out 2⟩; have c3 := pw_cell_below HB.out HE.out; obtain ⟨w9, hmu, hM9, hg9⟩ := HMU.out w1 HB.out 1; have HM9 := Lib.hid hM9; have HG9 := Lib.hid hg9; clear hM9 hg9)
          go_ret
          have hcn : cn = 1 := ite2_1 HC0.out HN0.out HOK.out
          rw [hcn] at HEND ⊢
          exact ⟨rfl, HEND.out _ _ HB.out HM9.out HG9.out⟩
        | false =>
          rw [hA, Bool.false_or] at hok
          cases hT : (Q.getD p z50).f2 with
          | false =>
            have HOK := Lib.hid (show okB (P.getD i z48) (Q.getD p z50) a 1 = false by rw [hok, hT, Bool.false_and])
            rw [hT] at HE c3
            clear hok
            go_wp2_with (go_at_call 98; (with_reducible refine (HCfalse.out _ HB.out).mono ?_); rintro e w1 ⟨he, hb⟩; rw [hA] at he; subst he; have HX := Lib.hid (below_far HX.out hb); have HS := Lib.hid (below_far HS.out hb); have HB := Lib.hid (HB.out.trans (hb.mono (below_size HB.out))); clear hb; obtain ⟨c0, c1, c2⟩ : w1.cell? ⟨w.heap.size, 0, none⟩ = some (.slice (some pa) P.length pc) ∧ w1.cell? ⟨w.heap.size, 1, none⟩ = some (.slice (some qa) Q.length qc) ∧ w1.cell? ⟨w.heap.size, 2, none⟩ = some (.map (some m)) := ⟨blk_cell HX.out 0, blk_cell HX.out 1, blk_cell HX.out 2⟩; obtain ⟨t0, t1, t2⟩ : w1.cell? ⟨w.heap.size + 1, 0, none⟩ = some (.int .i64 i) ∧ w1.cell? ⟨w.heap.size + 1, 1, none⟩ = some (.int .i64 p) ∧ w1.cell? ⟨w.heap.size + 1, 2, none⟩ = some (.int .i64 a) := ⟨blk_cell HS.out 0, blk_cell HS.out 1, blk_cell HS.out 2⟩; have c3 := pw_cell_below HB.out HE.out)
            go_roundw
            case rel => exact ⟨rfl, .inr (.inr ⟨by go_num, HN0, HOK⟩), HX, HS, HB⟩
            case measure => simp [intOf]
          | true =>
            rw [hT, Bool.true_and] at hok
            rw [hT] at HE c3
            cases hC : soundB (P.getD i z48) (Q.getD p z50) a true (hbK 1) with
            | true =>
              have HOK := Lib.hid (hok.trans hC)
              clear hok
              go_wp2_with (first | (go_at_call 98; (with_reducible refine (HCfalse.out _ HB.out).mono ?_); rintro e w1 ⟨he, hb⟩; rw [hA] at he; subst he; have HX := Lib.hid (below_far HX.out hb); have HS := Lib.hid (below_far HS.out hb); have HB := Lib.hid (HB.out.trans (hb.mono (below_size HB.out))); clear hb; obtain ⟨c0, c1, c2⟩ : w1.cell? ⟨w.heap.size, 0, none⟩ = some (.slice (some pa) P.length pc) ∧ w1.cell? ⟨w.heap.size, 1, none⟩ = some (.slice (some qa) Q.length qc) ∧ w1.cell? ⟨w.heap.size, 2, none⟩ = some (.map (some m)) := ⟨blk_cell HX.out 0, blk_cell HX.out 1, blk_cell HX.out 2⟩; obtain ⟨t0, t1, t2⟩ : w1.cell? ⟨w.heap.size + 1, 0, none⟩ = some (.int .i64 i) ∧ w1.cell? ⟨w.heap.size + 1, 1, none⟩ = some (.int .i64 p) ∧ w1.cell? ⟨w.heap.size + 1, 2, none⟩ = some (.int .i64 a) := ⟨blk_cell HS.out 0, blk_cell HS.out 1, blk_cell HS.out 2⟩; have c3 := pw_cell_below HB.out HE.out) | (go_at_call 98; (with_reducible refine (HCtrue.out _ HB.out).mono ?_); rintro e w2 ⟨he, hb⟩; rw [hC] at he; subst he; have HX := Lib.hid (below_far HX.out hb); have HS := Lib.hid (below_far HS.out hb); have HB := Lib.hid (HB.out.trans (hb.mono (below_size HB.out))); clear hb; obtain ⟨c0, c1, c2⟩ : w2.cell? ⟨w.heap.size, 0, none⟩ = some (.slice (some pa) P.length pc) ∧ w2.cell? ⟨w.heap.size, 1, none⟩ = some (.slice (some qa) Q.length qc) ∧ w2.cell? ⟨w.heap.size, 2, none⟩ = some (.map (some m)) := ⟨blk_cell HX.out 0, blk_cell HX.out 1, blk_cell HX.out 2⟩; obtain ⟨t0, t1, t2⟩ : w2.cell? ⟨w.heap.size + 1, 0, none⟩ = some (.int .i64 i) ∧ w2.cell? ⟨w.heap.size + 1, 1, none⟩ = some (.int .i64 p) ∧ w2.cell? ⟨w.heap.size + 1, 2, none⟩ = some (.int .i64 a) := ⟨blk_cell HS.out 0, blk_cell HS.out 1, blk_cell HS.out 2⟩; have c3 := pw_cell_below HB.out HE.out; obtain ⟨w9, hmu, hM9, hg9⟩ := HMU.out w2 HB.out 1; have HM9 := Lib.hid hM9; have HG9 := Lib.hid hg9; clear hM9 hg9))
              go_ret
              have hcn : cn = 1 := ite2_1 HC0.out HN0.out HOK.out
              rw [hcn] at HEND ⊢
              exact ⟨rfl, HEND.out _ _ HB.out HM9.out HG9.out⟩
            | false =>
              have HOK := Lib.hid (hok.trans hC)
              clear hok
              go_wp2_with (first | (go_at_call 98; (with_reducible refine (HCfalse.out _ HB.out).mono ?_); rintro e w1 ⟨he, hb⟩; rw [hA] at he; subst he; have HX := Lib.hid (below_far HX.out hb); have HS := Lib.hid (below_far HS.out hb); have HB := Lib.hid (HB.out.trans (hb.mono (below_size HB.out))); clear hb; obtain ⟨c0, c1, c2⟩ : w1.cell? ⟨w.heap.size, 0, none⟩ = some (.slice (some pa) P.length pc) ∧ w1.cell? ⟨w.heap.size, 1, none⟩ = some (.slice (some qa) Q.length qc) ∧ w1.cell? ⟨w.heap.size, 2, none⟩ = some (.map (some m)) := ⟨blk_cell HX.out 0, blk_cell HX.out 1, blk_cell HX.out 2⟩; obtain ⟨t0, t1, t2⟩ : w1.cell? ⟨w.heap.size + 1, 0, none⟩ = some (.int .i64 i) ∧ w1.cell? ⟨w.heap.size + 1, 1, none⟩ = some (.int .i64 p) ∧ w1.cell? ⟨w.heap.size + 1, 2, none⟩ = some (.int .i64 a) := ⟨blk_cell HS.out 0, blk_cell HS.out 1, blk_cell HS.out 2⟩; have c3 := pw_cell_below HB.out HE.out) | (go_at_call 98; (with_reducible refine (HCtrue.out _ HB.out).mono ?_); rintro e w2 ⟨he, hb⟩; rw [hC] at he; subst he; have HX := Lib.hid (below_far HX.out hb); have HS := Lib.hid (below_far HS.out hb); have HB := Lib.hid (HB.out.trans (hb.mono (below_size HB.out))); clear hb; obtain ⟨c0, c1, c2⟩ : w2.cell? ⟨w.heap.size, 0, none⟩ = some (.slice (some pa) P.length pc) ∧ w2.cell? ⟨w.heap.size, 1, none⟩ = some (.slice (some qa) Q.length qc) ∧ w2.cell? ⟨w.heap.size, 2, none⟩ = some (.map (some m)) := ⟨blk_cell HX.out 0, blk_cell HX.out 1, blk_cell HX.out 2⟩; obtain ⟨t0, t1, t2⟩ : w2.cell? ⟨w.heap.size + 1, 0, none⟩ = some (.int .i64 i) ∧ w2.cell? ⟨w.heap.size + 1, 1, none⟩ = some (.int .i64 p) ∧ w2.cell? ⟨w.heap.size + 1, 2, none⟩ = some (.int .i64 a) := ⟨blk_cell HS.out 0, blk_cell HS.out 1, blk_cell HS.out 2⟩; have c3 := pw_cell_below HB.out HE.out))
              go_roundw
              case rel => exact ⟨rfl, .inr (.inr ⟨by go_num, HN0, HOK⟩), HX, HS, HB⟩
              case measure => simp [intOf]
      · obtain ⟨w9, hmu, hM9, hg9⟩ := HMU.out wr HB.out 0
        have HM9 := Lib.hid hM9; have HG9 := Lib.hid hg9
        clear hM9 hg9
        go_wp2_with fail
        go_ret
        have hcn : cn = 0 := ite2_2 HC0.out HN0.out HN1.out
        rw [hcn] at HEND ⊢
        exact ⟨rfl, HEND.out _ _ HB.out HM9.out HG9.out⟩
def initF : List Int → Option Value := fun ks => if ks = [-1, -1, -1] then some (.int .i64 0) else none
theorem memo_init (P : List S48) (Q : List S50) : Memo P Q initF := by
  intro i j k v hv
  simp only [initF] at hv
  split at hv
  · rename_i he
    simp only [List.cons.injEq] at he
    omega
  · cases hv
set_option maxRecDepth 100000 in
set_option maxHeartbeats 800000 in
theorem calls_opened (PA : Option Addr) (pc : Nat) (QA : Option Addr) (qc : Nat) (P : List S48) (Q : List S50) (w : World) (hG : Glob w) (hP : Kd.C k48 w PA P.length P) (hQ : Kd.C k50 w QA Q.length Q) :
    Calls Tryd.prog 60 #[.agg #[.slice PA P.length pc, .slice QA Q.length qc]] w fun e w' => ∃ m, e = .returned (.agg #[.slice PA P.length pc, .slice QA Q.length qc, .map (some m)]) ∧ Bk PA QA m P Q w' ∧ w.heap.size ≤ m ∧ Below w.heap.size w w' := by
  obtain ⟨n0, n1, n2, n3⟩ := new2 w (.cells #[.slice PA P.length pc, .slice QA Q.length qc] 25) (.cells #[.slice none 0 0, .slice none 0 0, .map none] 84)
  go_enter Tryd.func60, Tryd.ntmps60
  go_wp2_with fail
  generalize (w.alloc (.cells #[.slice PA P.length pc, .slice QA Q.length qc] 25)).alloc (.cells #[.slice none 0 0, .slice none 0 0, .map none] 84) = W at n0 n1 n2 n3 ⊢
  obtain ⟨hc0, hc1, hc2⟩ : W.cell? ⟨0, 0, none⟩ = some (.int .i64 (-1)) ∧ W.cell? ⟨0, 1, none⟩ = some (.int .i64 (-1)) ∧ W.cell? ⟨0, 2, none⟩ = some (.int .i64 (-1)) := by have h := hG.below n2; exact ⟨h.no0, h.no1, h.no2⟩
  have hlt : 0 < W.heap.size := World.block_lt_of_cell? W _ hc0
  have hx0 : W.cell? ⟨w.heap.size, 0, none⟩ = some (.slice PA P.length pc) := blk_cell n0 0
  have hx1 : W.cell? ⟨w.heap.size, 1, none⟩ = some (.slice QA Q.length qc) := blk_cell n0 1
  obtain ⟨hy0, hy1, hy2⟩ : W.cell? ⟨w.heap.size + 1, 0, none⟩ = some (.slice none 0 0) ∧ W.cell? ⟨w.heap.size + 1, 1, none⟩ = some (.slice none 0 0) ∧ W.cell? ⟨w.heap.size + 1, 2, none⟩ = some (.map none) := ⟨blk_cell n1 0, blk_cell n1 1, blk_cell n1 2⟩
  have hf0 := blk_frozen n1 0; have hf1 := blk_frozen n1 1; have hf2 := blk_frozen n1 2
  have hl0 : w.heap.size < W.heap.size := by omega
  have hl1 : w.heap.size + 1 < W.heap.size := by omega
  have hmm := @run_makeMap Tryd.prog
  have hi1 : (Instr.mapUpdate 82 (.map (some W.heap.size)) (.agg #[.int .i64 (-1), .int .i64 (-1), .int .i64 (-1)]) (.int .i64 0)).run Tryd.prog (W.alloc (.map #[] 0)).drew = .ok () (W.alloc (.map #[⟨keyA [-1, -1, -1], .int .i64 0, 0⟩] 1)).drew := by
    have := run_insert_new 82 3 Tryd.underlying82 spotKey (W := (W.alloc (.map #[] 0)).drew) (blk_new W _) [-1, -1, -1] rfl (.int .i64 0)
    rw [putObj_drew, putObj_new] at this
    exact this
  have HN1 := Lib.hid n1; have HN2 := Lib.hid n2; have HG := Lib.hid hG; have HP := Lib.hid hP; have HQ := Lib.hid hQ; have HN3 := Lib.hid n3
  clear n0 n1 n2 n3 hG hP hQ
  go_region
  all_goals
    go_wp2
    have hsz := HN3.out
    have hr0 := blk_set (blk_set (blk_set HN1.out 0 (.slice PA P.length pc)) 1 (.slice QA Q.length qc)) 2 (.map (some W.heap.size))
    have hsc : (((W.setCell ⟨w.heap.size + 1, 0, none⟩ (.slice PA P.length pc)).setCell ⟨w.heap.size + 1, 1, none⟩ (.slice QA Q.length qc)).setCell ⟨w.heap.size + 1, 2, none⟩ (.map (some W.heap.size))).heap.size = W.heap.size := by simp
    have hbs : Below w.heap.size w (((W.setCell ⟨w.heap.size + 1, 0, none⟩ (.slice PA P.length pc)).setCell ⟨w.heap.size + 1, 1, none⟩ (.slice QA Q.length qc)).setCell ⟨w.heap.size + 1, 2, none⟩ (.map (some W.heap.size))) := ((HN2.out.setCell (by show w.heap.size ≤ w.heap.size + 1; omega) _).setCell (by show w.heap.size ≤ w.heap.size + 1; omega) _).setCell (by show w.heap.size ≤ w.heap.size + 1; omega) _
    generalize ((W.setCell ⟨w.heap.size + 1, 0, none⟩ (.slice PA P.length pc)).setCell ⟨w.heap.size + 1, 1, none⟩ (.slice QA Q.length qc)).setCell ⟨w.heap.size + 1, 2, none⟩ (.map (some W.heap.size)) = W2 at hr0 hsc hbs ⊢
    have hm : W2.alloc (.map #[⟨keyA [-1, -1, -1], .int .i64 0, 0⟩] 1) |>.heap[W.heap.size]? = some (.map #[⟨keyA [-1, -1, -1], .int .i64 0, 0⟩] 1) := by
      have := blk_new W2 (.map #[⟨keyA [-1, -1, -1], .int .i64 0, 0⟩] 1); rwa [hsc] at this
    have hb3 : Below w.heap.size w (W2.alloc (.map #[⟨keyA [-1, -1, -1], .int .i64 0, 0⟩] 1)).drew := (below_alloc hbs _).drew
    have hr1 : (W2.alloc (.map #[⟨keyA [-1, -1, -1], .int .i64 0, 0⟩] 1)).drew.heap[w.heap.size + 1]? = some (.cells #[.slice PA P.length pc, .slice QA Q.length qc, .map (some W.heap.size)] 84 (0, 0)) := blk_alloc hr0 _
    refine bodyPost_ret (results_cell_row rfl _ _ (w.heap.size + 1) 84 _ _ _ rfl hr1 Tryd.underlying84 rfl (by kernel_rfl)) rfl ⟨W.heap.size, rfl, ⟨HG.out.below hb3, Kd.C_below HP.out hb3, Kd.C_below HQ.out hb3, initF, ?_, memo_init P Q⟩, by omega, hb3⟩
    exact MapFn.one (W2.alloc (.map #[⟨keyA [-1, -1, -1], .int .i64 0, 0⟩] 1)).drew [-1, -1, -1] (.int .i64 0) W.heap.size hm
end Go.Proofs.YtekjlpldooihhaaDoorP
namespace Go.Proofs.YtekjlpldooihhaaDoorH
set_option linter.unusedVariables false
set_option linter.unusedSimpArgs false
open Go.RowKit
def AbidesM {β : Type} (m : Nat) (Inv : World → Prop) (J : β → World → Prop) : Prop := ∀ s A B, J s A → A.grownBy B (some m) → Inv B → J s B
def SeqM {α : Type} (n : Nat) (P : Program) (gf : Nat) (lb : Array Value) (enc : α → Value) (m : Nat) (Inv : World → Prop) (xs : List α) : Prop :=
  ∀ (l : Nat) (J Jx : List α → World → Prop) (W : World), Inv W → AbidesM m Inv J → (∀ pre A, Jx pre A → Jx pre A.drew) →
    (∀ pre x W1, J pre W1 → Inv W1 → pre ++ [x] <+: xs → YieldAt Fence.wide (n - 1) P l #[enc x] W1 fun e W' =>
      (e = .returned (.bool true) ∧ J (pre ++ [x]) W' ∧ Inv W') ∨ (e = .returned (.bool false) ∧ Jx (pre ++ [x]) W')) →
    J [] W →
    CallsIn Fence.wide n P gf (#[.func (.yield l) #[] #[]] ++ lb) W fun e W' => (∃ v, e = .returned v) ∧ ((J xs W' ∧ Inv W') ∨ (∃ pre, pre <+: xs ∧ Jx pre W'))
def postM {α : Type} (B : Nat) (Inv : World → Prop) (I : List α → World → Prop) (Ix : Code → List α → World → Prop) (ys : List α) (W : World) : Exit → Act → World → Prop
  | .normal, _, W' => KeepsFrom B W W' ∧ Inv W' ∧ I ys W'
  | .ret, _, W' => KeepsFrom B W W' ∧ Ix .ret ys W'
  | .exit id, _, W' => KeepsFrom B W W' ∧ Ix (.exit id) ys W'
  | .goto t, _, W' => KeepsFrom B W W' ∧ Ix (.goto t) ys W'
  | .panic _, _, _ => False
  | .outgrown, _, _ => False
theorem rangeFunc_memo {P : Program} {n : Nat} {α : Type} {g : Operand} {ps : Array Tmp} {assign body : Code} {Q : Exit → Act → World → Prop} {a : Act} {w : World}
    (h1 : 1 ≤ n) {gf : Nat} {lb : Array Value} (hg : a.eval g = .func (.func gf) #[] lb) (eg : ∀ args w, (callFunc gf args).run P w = .ok (.enter gf args) w)
    {enc : α → Value} {m : Nat} {Inv : World → Prop} {xs : List α} (hseq : SeqM (n - 1) P gf lb enc m Inv xs) (hm : m < w.heap.size) (hInv : Inv w)
    (hIa : ∀ W o, Inv W → Inv (W.alloc o)) (hIp : ∀ W l o o', w.heap.size ≤ l → W.heap[l]? = some o → o.isCells = false → Inv W → Inv (W.putObj l o')) (hps : ps.size = 1)
    (I : List α → World → Prop) (Ix : Code → List α → World → Prop) (hI : OwnFrom w.heap.size I) (hIx : ∀ c, OwnFrom w.heap.size (Ix c)) (hIM : AbidesM m Inv I) (h0 : I [] w) (d : α → Act)
    (hassign : ∀ (l : Nat) (x : α) (W : World) (K : Act → World → Prop), K (d x) W →
      assign.wpIn (Fence.wide.inRound l) (n - 1 - 1) P (Exit.then K (fun _ _ _ => False)) { tmps := (ps.zip #[enc x]).foldl (fun t (p, v) => t.setIfInBounds p v) a.tmps, defers := [] } W)
    (hbody : ∀ (l : Nat) (pre : List α) (x : α) (W : World), w.heap.size ≤ l → l < W.heap.size → I pre W → Inv W → pre ++ [x] <+: xs → body.wpIn (Fence.wide.inRound l) (n - 1 - 1) P (postM w.heap.size Inv I Ix (pre ++ [x]) W) (d x) W)
    (hdone : ∀ (D : Nat) (W : World), w.heap.size ≤ D → I xs W → Inv W → W.heap[D]? = some (.deferred (some [])) → Q .normal { a with defers := { target := .collected D, args := #[] } :: a.defers } W)
    (hstop : ∀ (D : Nat) (c : Code) (pre : List α) (W : World), w.heap.size ≤ D → pre <+: xs → Ix c pre W → W.heap[D]? = some (.deferred (some [])) → c.wpIn Fence.wide n P Q { a with defers := { target := .collected D, args := #[] } :: a.defers } W) :
    (Code.rangeFunc g ps assign body).wpIn Fence.wide n P Q a w := by
  refine wpIn_rangeFunc fun fn hfn => ?_
  -- the loop's record, at one state after the other
  obtain ⟨rec, hrec⟩ : ∃ rec : LoopState → Option Code → Loop, rec = fun st pe => { state := st, pending := pe, fn, tmps := a.tmps, params := ps, assign, body, defers := w.heap.size } := ⟨_, rfl⟩
  obtain ⟨W1, hW1⟩ : ∃ W1, (w.alloc (.deferred (some []))).alloc (.loop (rec .ready none)) = W1 := ⟨_, rfl⟩
  have hL : W1.heap[w.heap.size + 1]? = some (.loop (rec .ready none)) := by
    have := World.alloc_heap_new (w.alloc (.deferred (some []))) (.loop (rec .ready none)); rwa [World.size_alloc, hW1] at this
  have hD : W1.heap[w.heap.size]? = some (.deferred (some [])) := by
    rw [← hW1]; exact (Below.heap_alloc _ _ _ (by simp)).trans (World.alloc_heap_new w _)
  have hI1 : I [] W1 := by rw [← hW1]; exact hI.alloc _ (hI.alloc _ h0)
  have hV1 : Inv W1 := by rw [← hW1]; exact hIa _ _ (hIa _ _ hInv)
  -- the two facts of the law's own blocks
  let Bk : Loop → World → Prop := fun r W => W.heap[w.heap.size + 1]? = some (.loop r) ∧ W.heap[w.heap.size]? = some (.deferred (some []))
  have hBkM : ∀ r A B, Bk r A → A.grownBy B (some m) → Bk r B := fun r A B h k =>
    ⟨(k.block _ (Array.getElem?_eq_some_iff.1 h.1).1 (by simp; omega)).trans h.1, (k.block _ (Array.getElem?_eq_some_iff.1 h.2).1 (by simp; omega)).trans h.2⟩
  have hput : ∀ (r r' : Loop) (W : World), Bk r W → Bk r' (W.putObj (w.heap.size + 1) (.loop r')) := fun r r' W h =>
    ⟨World.putObj_heap_same (Array.getElem?_eq_some_iff.1 h.1).1, (World.putObj_heap_other (by omega)).trans h.2⟩
  refine ⟨w.heap.size + 1, [{ target := .collected w.heap.size, args := #[] }], W1, { target := .fn (.func gf) lb, args := #[.func (.yield (w.heap.size + 1)) #[] #[]] }, W1, gf,
    #[.func (.yield (w.heap.size + 1)) #[] #[]] ++ lb, W1, ?_, ?_, ?_, ?_, fun _ => h1, ?_⟩
  · rw [← hW1, hrec]; exact run_enterLoop_outer _ _ _ _ _
  · simp only [resolve, hg]
    simp [go_sem]
  · intro f' hf'; simp [Target.leads] at hf'; subst hf'; trivial
  · simp [invoke, go_sem, eg]
  · refine (hseq (w.heap.size + 1) (fun pre W => I pre W ∧ Bk (rec .ready none) W) (fun pre W => ∃ c, Ix c pre W ∧ Bk (rec .done (some c)) W) W1 hV1
      (fun s A B hs hg' hv => ⟨hIM s A B hs.1 hg' hv, hBkM _ A B hs.2 hg'⟩)
      (fun pre A hs => by
        obtain ⟨c, hc, hb⟩ := hs
        exact ⟨c, hIx c pre A A.drew none hc ⟨rfl, rfl, rfl, Nat.le_refl _, fun _ _ _ => rfl⟩ (fun r e => by cases e), hb⟩)
      ?_ ⟨hI1, hL, hD⟩).mono ?_
    · -- one round
      rintro pre x W ⟨hi, hb⟩ hv hpre
      have hlt : w.heap.size + 1 < W.heap.size := (Array.getElem?_eq_some_iff.1 hb.1).1
      have hy := run_yield (P := P) (args := #[enc x]) hb.1 (by rw [hrec]; simpa using hps.symm)
      rw [hrec] at hy
      refine ⟨fn, _, assign, body, hy, roundIn_of_wpIn hfn (hassign _ x W _ ⟨_, run_beginRound hb.1 (by rw [hrec]), ?_⟩)⟩
      have hb2 := hput _ { rec .ready none with state := .busy } W hb
      refine wpIn_mono (hbody _ pre x _ (by omega) (Array.getElem?_eq_some_iff.1 hb2.1).1 (hI.putObj _ hi (by omega) hb.1 rfl) (hIp _ _ _ _ (by omega) hb.1 rfl hv) hpre) ?_
      have fin : ∀ (jump : Option Code) (W3 : World), KeepsFrom w.heap.size (W.putObj (w.heap.size + 1) (.loop { rec .ready none with state := .busy })) W3 →
          (Instr.endRound (w.heap.size + 1) jump).run P W3 = .ok (.bool jump.isNone) (W3.putObj (w.heap.size + 1) (.loop (rec (if jump.isNone then .ready else .done) jump))) ∧ Bk { rec .ready none with state := .busy } W3 ∧
          Bk (rec (if jump.isNone then .ready else .done) jump) (W3.putObj (w.heap.size + 1) (.loop (rec (if jump.isNone then .ready else .done) jump))) := fun jump W3 hk => by
        have hb3 : Bk { rec .ready none with state := .busy } W3 := ⟨hk.same _ _ (by omega) hb2.1 rfl, hk.same _ _ (Nat.le_refl _) hb2.2 rfl⟩
        have he := run_endRound (P := P) jump hb3.1
        have hp := hput _ (rec (if jump.isNone then .ready else .done) jump) W3 hb3
        rw [hrec] at he hp ⊢
        exact ⟨he, by rw [hrec] at hb3; exact hb3, hp⟩
      rintro e a3 W3 hp
      cases e with
      | normal =>
        obtain ⟨hk, hv3, hi3⟩ := hp
        obtain ⟨hr, hb3, hb4⟩ := fin none W3 hk
        exact ⟨_, _, hr, .inl ⟨rfl, ⟨hI.putObj _ hi3 (by omega) hb3.1 rfl, hb4⟩, hIp _ _ _ _ (by omega) hb3.1 rfl hv3⟩⟩
      | ret =>
        obtain ⟨hk, hi3⟩ := hp
        obtain ⟨hr, hb3, hb4⟩ := fin (some .ret) W3 hk
        exact ⟨_, _, hr, .inr ⟨rfl, .ret, (hIx _).putObj _ hi3 (by omega) hb3.1 rfl, hb4⟩⟩
      | exit id =>
        obtain ⟨hk, hi3⟩ := hp
        obtain ⟨hr, hb3, hb4⟩ := fin (some (.exit id)) W3 hk
        exact ⟨_, _, hr, .inr ⟨rfl, .exit id, (hIx _).putObj _ hi3 (by omega) hb3.1 rfl, hb4⟩⟩
      | goto t =>
        obtain ⟨hk, hi3⟩ := hp
        obtain ⟨hr, hb3, hb4⟩ := fin (some (.goto t)) W3 hk
        exact ⟨_, _, hr, .inr ⟨rfl, .goto t, (hIx _).putObj _ hi3 (by omega) hb3.1 rfl, hb4⟩⟩
      | panic ch => exact hp.elim
      | outgrown => exact hp.elim
    · -- behind the iterator
      rintro e W2 ⟨⟨v, rfl⟩, (⟨⟨hi, hb⟩, hv⟩ | ⟨pre, hpre, c, hi, hb⟩)⟩
      · have he := run_endLoop (P := P) hb.1 (by rw [hrec]; simp)
        refine ⟨none, _, by rw [hrec] at he; exact he, hdone _ _ (Nat.le_refl _) (hI.putObj _ hi (by omega) hb.1 rfl) (hIp _ _ _ _ (by omega) hb.1 rfl hv) ((World.putObj_heap_other (by omega)).trans hb.2)⟩
      · have he := run_endLoop (P := P) hb.1 (by rw [hrec]; simp)
        refine ⟨some c, _, by rw [hrec] at he; exact he, hstop _ c pre _ (Nat.le_refl _) hpre ((hIx c).putObj _ hi (by omega) hb.1 rfl) ((World.putObj_heap_other (by omega)).trans hb.2)⟩
theorem rangeFunc_memo_var {P : Program} {n : Nat} {α : Type} {g : Operand} {p s : Tmp} {assign body : Code} {Q : Exit → Act → World → Prop} {a : Act} {w : World}
    (h1 : 1 ≤ n) {gf : Nat} {lb : Array Value} (hg : a.eval g = .func (.func gf) #[] lb) (eg : ∀ args w, (callFunc gf args).run P w = .ok (.enter gf args) w)
    {enc : α → Value} {m : Nat} {Inv : World → Prop} {xs : List α} (hseq : SeqM (n - 1) P gf lb enc m Inv xs) (hm : m < w.heap.size) (hInv : Inv w)
    (hIa : ∀ W o, Inv W → Inv (W.alloc o)) (hIp : ∀ W l o o', w.heap.size ≤ l → W.heap[l]? = some o → o.isCells = false → Inv W → Inv (W.putObj l o'))
    (I : List α → World → Prop) (Ix : Code → List α → World → Prop) (hI : OwnFrom w.heap.size I) (hIx : ∀ c, OwnFrom w.heap.size (Ix c)) (hIM : AbidesM m Inv I) (h0 : I [] w)
    (hassign : ∀ (l : Nat) (x : α) (W : World) (K : Act → World → Prop), K { tmps := (a.tmps.setIfInBounds p (enc x)).setIfInBounds s (enc x), defers := [] } W → assign.wpIn (Fence.wide.inRound l) (n - 1 - 1) P (Exit.then K (fun _ _ _ => False)) { tmps := a.tmps.setIfInBounds p (enc x), defers := [] } W)
    (hbody : ∀ (l : Nat) (pre : List α) (x : α) (W : World), w.heap.size ≤ l → l < W.heap.size → I pre W → Inv W → pre ++ [x] <+: xs → body.wpIn (Fence.wide.inRound l) (n - 1 - 1) P (postM w.heap.size Inv I Ix (pre ++ [x]) W) { tmps := (a.tmps.setIfInBounds p (enc x)).setIfInBounds s (enc x), defers := [] } W)
    (hdone : ∀ (D : Nat) (W : World), w.heap.size ≤ D → I xs W → Inv W → W.heap[D]? = some (.deferred (some [])) → Q .normal { a with defers := { target := .collected D, args := #[] } :: a.defers } W)
    (hstop : ∀ (D : Nat) (c : Code) (pre : List α) (W : World), w.heap.size ≤ D → pre <+: xs → Ix c pre W → W.heap[D]? = some (.deferred (some [])) → c.wpIn Fence.wide n P Q { a with defers := { target := .collected D, args := #[] } :: a.defers } W) :
    (Code.rangeFunc g #[p] assign body).wpIn Fence.wide n P Q a w :=
  rangeFunc_memo h1 hg eg hseq hm hInv hIa hIp rfl I Ix hI hIx hIM h0 (fun x => { tmps := (a.tmps.setIfInBounds p (enc x)).setIfInBounds s (enc x), defers := [] }) (fun l x W K hK => by simpa using hassign l x W K hK) hbody hdone hstop
theorem results_cell_two {P : Program} {fn : Func} {p q : Tmp} {ty uy : TypeId} (h : fn.results = #[.cell p ty, .cell q uy]) {tmps : Array Value} {w : World} {g k : Nat} {v z : Value} {u u' : TypeDesc} (hp : tmps.getD p undef = .pointer (some ⟨g, 0, none⟩)) (hq : tmps.getD q undef = .pointer (some ⟨k, 0, none⟩)) (hc : w.cell? ⟨g, 0, none⟩ = some v) (hc' : w.cell? ⟨k, 0, none⟩ = some z) (hu : P.underlying ty = some u)
    (hn : (match u with | .struct _ | .array _ _ => true | _ => false) = false) (hu' : P.underlying uy = some u') (hn' : (match u' with | .struct _ | .array _ _ => true | _ => false) = false) : (results fn tmps).run P w = .ok (.tuple #[v, z]) w := by
  have hp' : tmps[p]?.getD undef = .pointer (some ⟨g, 0, none⟩) := by simpa using hp
  have hq' : tmps[q]?.getD undef = .pointer (some ⟨k, 0, none⟩) := by simpa using hq
  have hagg : (isAgg ty).run P w = .ok false w := by
    unfold isAgg
    rw [Sem.run_bind, run_underlying hu w]
    cases u <;> simp_all
  have hagg' : (isAgg uy).run P w = .ok false w := by
    unfold isAgg
    rw [Sem.run_bind, run_underlying hu' w]
    cases u' <;> simp_all
  simp [results, h, hp', hq', asAddr, loadVar, Sem.run_bind, hagg, hagg', go_sem, hc, hc']
end Go.Proofs.YtekjlpldooihhaaDoorH
namespace Go.Proofs.YtekjlpldooihhaaDoorP
open Go.RowKit Go.Proofs.YtekjlpldooihhaaDoorW.PrintWords Go.Proofs.YtekjlpldooihhaaDoorW.PrintLast Go.Proofs.YtekjlpldooihhaaDoorW.PrintMore Go.Proofs.YtekjlpldooihhaaDoorH Go.Proofs.YtekjlpldooihhaaDoorEv Go.Proofs.YtekjlpldooihhaaDoor.PA
set_option linter.unusedVariables false
set_option linter.unusedSimpArgs false
structure Ok (P : List S48) (Q : List S50) : Prop where
  p3 : P.length ≤ 3
  q5 : Q.length ≤ 5
  wood : ∀ y ∈ P, 1 ≤ y.f0 ∧ y.f0 ≤ 16 ∧ WoodOk y
  shape : ∀ x ∈ Q, 1 ≤ x.f0 ∧ x.f0 ≤ 12 ∧ x.f1.length ≤ 3 ∧ ∀ n ∈ x.f1, 0 ≤ n ∧ n < x.f0
theorem getD_mem {α : Type} {l : List α} {p : Nat} {z : α} (h : p < l.length) : l.getD p z ∈ l := by
  rw [show l.getD p z = l[p] from by simp [h]]; exact List.getElem_mem h
theorem Ok.sized {P : List S48} {Q : List S50} (h : Ok P Q) {i p : Nat} (hi : i < P.length) (hp : p < Q.length) : Sized (P.getD i z48) (Q.getD p z50) := by
  obtain ⟨a1, a2, _⟩ := h.wood _ (getD_mem (z := z48) hi)
  obtain ⟨b1, b2, _⟩ := h.shape _ (getD_mem (z := z50) hp)
  exact ⟨a1, a2, b1, b2⟩
theorem Ok.woodOk {P : List S48} {Q : List S50} (h : Ok P Q) {i : Nat} (hi : i < P.length) : WoodOk (P.getD i z48) := (h.wood _ (getD_mem (z := z48) hi)).2.2
theorem Ok.fits {P : List S48} {Q : List S50} (h : Ok P Q) {i p a : Nat} (hi : i < P.length) (hp : p < Q.length) (hl : liesB (P.getD i z48) (Q.getD p z50) a = true) : Fits (Q.getD p z50) a := by
  obtain ⟨a1, a2, _⟩ := h.wood _ (getD_mem (z := z48) hi)
  obtain ⟨b1, b2, b3, b4⟩ := h.shape _ (getD_mem (z := z50) hp)
  unfold liesB at hl
  simp only [Bool.and_eq_true, decide_eq_true_eq] at hl
  exact ⟨b1, by omega, b3, b4⟩
def spotB (y : S48) (x : S50) (a : Nat) : Bool := liesB y x a && (canN y x a == 2)
def spotsL (y : S48) (x : S50) : List Nat := (List.range y.f0.toNat).filter (spotB y x)
structure SpotBox (PA : Option Addr) (pn pc : Nat) (QA : Option Addr) (qn qc m i p g : Nat) (W : World) : Prop where
  book : W.heap[g]? = some (.cells #[.slice PA pn pc, .slice QA qn qc, .map (some m)] 84 (0, 0))
  plank : W.heap[g + 1]? = some (.cells #[.int .i64 i] 3 (0, 0))
  part : W.heap[g + 2]? = some (.cells #[.int .i64 p] 3 (0, 0))
def SpotInv (PA : Option Addr) (pc : Nat) (QA : Option Addr) (qc m : Nat) (P : List S48) (Q : List S50) (i p g : Nat) (W : World) : Prop := Bk PA QA m P Q W ∧ SpotBox PA P.length pc QA Q.length qc m i p g W
theorem SpotInv.below {PA : Option Addr} {pc : Nat} {QA : Option Addr} {qc m : Nat} {P : List S48} {Q : List S50} {i p g : Nat} {W W1 : World} (h : SpotInv PA pc QA qc m P Q i p g W) (hb : Below W.heap.size W W1) : SpotInv PA pc QA qc m P Q i p g W1 :=
  ⟨h.1.below hb, ⟨below_far h.2.book hb, below_far h.2.plank hb, below_far h.2.part hb⟩⟩
theorem SpotInv.grown {PA : Option Addr} {pc : Nat} {QA : Option Addr} {qc m : Nat} {P : List S48} {Q : List S50} {i p g : Nat} {W W1 : World} (h : SpotInv PA pc QA qc m P Q i p g W) (hg : W.grownBy W1 (some m)) (hb : Bk PA QA m P Q W1) : SpotInv PA pc QA qc m P Q i p g W1 :=
  ⟨hb, ⟨blk_grownM h.2.book h.1.is hg, blk_grownM h.2.plank h.1.is hg, blk_grownM h.2.part h.1.is hg⟩⟩
theorem put_cells {W : World} {l : Nat} {o : Obj} (hl : W.heap[l]? = some o) (ho : o.isCells = false) (o' : Obj) : Cells W (W.putObj l o') := by
  intro a v h
  have hne : a.block ≠ l := fun e => by
    have h1 := h
    unfold World.cell? at h1
    rw [e, hl] at h1
    cases o <;> simp_all [Obj.isCells]
  unfold World.cell? at h ⊢
  rw [grownBy_putObj_at W l o' a.block hne]; exact h
theorem Bk.put {PA QA : Option Addr} {m : Nat} {P : List S48} {Q : List S50} {W : World} {l : Nat} {o : Obj} (h : Bk PA QA m P Q W) (hl : W.heap[l]? = some o) (ho : o.isCells = false) (hm : m ≠ l) (o' : Obj) : Bk PA QA m P Q (W.putObj l o') := by
  have hc := put_cells hl ho o'
  obtain ⟨h1, h2, h3, f, h4, h5⟩ := h
  exact ⟨h1.cells hc, C_keeps keeps_wood hc h2, C_keeps keeps_shape hc h3, f, h4.same (grownBy_putObj_at W l o' m hm), h5⟩
theorem SpotInv.put {PA : Option Addr} {pc : Nat} {QA : Option Addr} {qc m : Nat} {P : List S48} {Q : List S50} {i p g : Nat} {W : World} {l : Nat} {o : Obj} (h : SpotInv PA pc QA qc m P Q i p g W) (hl : W.heap[l]? = some o) (ho : o.isCells = false) (hm : m ≠ l) (o' : Obj) : SpotInv PA pc QA qc m P Q i p g (W.putObj l o') := by
  have hne : ∀ (k : Nat) cs t fr, W.heap[k]? = some (.cells cs t fr) → (W.putObj l o').heap[k]? = some (.cells cs t fr) := fun k cs t fr hk => by
    refine (grownBy_putObj_at W l o' k (fun e => ?_)).trans hk
    rw [e, hl] at hk
    cases hk
    cases ho
  exact ⟨h.1.put hl ho hm o', ⟨hne _ _ _ _ h.2.book, hne _ _ _ _ h.2.plank, hne _ _ _ _ h.2.part⟩⟩
theorem calls_spots (PA : Option Addr) (pn pc : Nat) (QA : Option Addr) (qn qc m : Nat) (i p : Nat) (w : World) :
    Calls Tryd.prog 74 #[.agg (bookV PA pn pc QA qn qc m), .int .i64 i, .int .i64 p] w fun e w' =>
      e = .returned (.func (.func 102) #[] #[.pointer (some ⟨w.heap.size, 0, none⟩), .pointer (some ⟨w.heap.size + 1, 0, none⟩), .pointer (some ⟨w.heap.size + 2, 0, none⟩)]) ∧
      SpotBox PA pn pc QA qn qc m i p w.heap.size w' ∧ Below w.heap.size w w' ∧ w'.heap.size = w.heap.size + 3 := by
  obtain ⟨n0, n1, n2, n3, n4⟩ := new3 w (.cells #[.slice PA pn pc, .slice QA qn qc, .map (some m)] 84) (.cells #[.int .i64 i] 3) (.cells #[.int .i64 p] 3)
  go_enter Tryd.func74, Tryd.ntmps74
  unfold bookV
  go_wp2
  go_ret
  exact ⟨rfl, ⟨n0, n1, n2⟩, n3, n4⟩
theorem spots_next_yes {y : S48} {x : S50} {k : Nat} (h : spotB y x k = true) : (List.range (k + 1)).filter (spotB y x) = (List.range k).filter (spotB y x) ++ [k] := by
  rw [List.range_succ, List.filter_append]; simp [h]
theorem spots_next_no {y : S48} {x : S50} {k : Nat} (h : spotB y x k = false) : (List.range (k + 1)).filter (spotB y x) = (List.range k).filter (spotB y x) := by
  rw [List.range_succ, List.filter_append]; simp [h]
theorem spots_prefix {y : S48} {x : S50} {k : Nat} (hk : k < y.f0.toNat) (h : spotB y x k = true) : (List.range k).filter (spotB y x) ++ [k] <+: spotsL y x := by
  rw [← spots_next_yes h]
  have : List.range y.f0.toNat = List.range (k + 1) ++ (List.range (y.f0.toNat - (k + 1))).map (k + 1 + ·) := by
    rw [← List.range_add]; congr 1; omega
  unfold spotsL
  rw [this, List.filter_append]
  exact List.prefix_append _ _
attribute [local go_sem] Oper.semAt_some
set_option maxRecDepth 100000 in
set_option maxHeartbeats 2000000 in
theorem spots_seq (n : Nat) (PA : Option Addr) (pc : Nat) (QA : Option Addr) (qc m : Nat) (P : List S48) (Q : List S50) (hok : Ok P Q) (i p g : Nat) (hi : i < P.length) (hp : p < Q.length) :
    SeqM n Tryd.prog 102 #[.pointer (some ⟨g, 0, none⟩), .pointer (some ⟨g + 1, 0, none⟩), .pointer (some ⟨g + 2, 0, none⟩)] (fun a : Nat => .int .i64 (a : Nat)) m (SpotInv PA pc QA qc m P Q i p g) (spotsL (P.getD i z48) (Q.getD p z50)) := by
  intro l J Jx W hInv hJ hJx hY h0
  show CallsIn Fence.wide n Tryd.prog 102 #[.func (.yield l) #[] #[], .pointer (some ⟨g, 0, none⟩), .pointer (some ⟨g + 1, 0, none⟩), .pointer (some ⟨g + 2, 0, none⟩)] W _
  refine callsIn_of_wp Tryd.func102 rfl trivial ?_ rfl
  simp only [Tryd.ntmps102, List.size_toArray, List.length_cons, List.length_nil, Nat.reduceAdd, Nat.reduceSub, Array.replicate_succ, Array.replicate_zero, List.push_toArray, List.append_toArray, List.nil_append, List.cons_append]
  obtain ⟨pa, B1, d1, rfl, e0, -, -, -⟩ := at_wood hInv.1.planks i hi
  have hc0 : W.cell? ⟨g, 0, none⟩ = some (.slice (some pa) P.length pc) := blk_cell hInv.2.book 0
  have hc1 : W.cell? ⟨g + 1, 0, none⟩ = some (.int .i64 i) := blk_cell hInv.2.plank 0
  have hsz := hok.sized hi hp
  have hi2 : (i : Int) < (P.length : Int) := by omega
  obtain ⟨L, hL⟩ : ∃ L : Nat, (P.getD i z48).f0 = L := ⟨(P.getD i z48).f0.toNat, by have := hsz.w1; omega⟩
  rw [hL] at e0
  have hL16 : L ≤ 16 := by have := hsz.w16; omega
  gi_wp2
  refine wpIn_scope ?_
  gi_step
  refine wpIn_label ?_
  gi_wp2
  have HB := Lib.hid hInv; have H0 := Lib.hid h0
  have hyt : (P.getD i z48).f0.toNat = L := by omega
  clear h0 hInv hc0 hc1 e0
  gi_loopw [14] (fun v wr => ∃ k : Nat, k ≤ L ∧ v = .int .i64 k ∧ Hid (J ((List.range k).filter (spotB (P.getD i z48) (Q.getD p z50))) wr) ∧ Hid (SpotInv (some pa) pc QA qc m P Q i p g wr)) (fun v _ => L - (intOf v).toNat)
  case atStart => exact ⟨0, Nat.zero_le _, rfl, H0, HB⟩
  case round =>
    clear H0 HB
    obtain ⟨k, hk, rfl, HJ0, HB⟩ := hrel
    by_cases hlt : k < L
    · have c1 : wr.cell? ⟨g + 1, 0, none⟩ = some (.int .i64 i) := blk_cell HB.out.2.plank 0
      have c2 : wr.cell? ⟨g + 2, 0, none⟩ = some (.int .i64 p) := blk_cell HB.out.2.part 0
      obtain ⟨n0, n1, n2⟩ := new1 wr (.cells #[.int .i64 i, .int .i64 p, .int .i64 k] 87)
      have HS := Lib.hid n0
      have HB := Lib.hid (HB.out.below n1)
      have HG := Lib.hid (grown_of_below n1 (some m))
      clear n0 n1 n2
      obtain ⟨b0, b1, b2⟩ : (wr.alloc (.cells #[.int .i64 i, .int .i64 p, .int .i64 k] 87)).cell? ⟨g, 0, none⟩ = some (.slice (some pa) P.length pc) ∧ (wr.alloc (.cells #[.int .i64 i, .int .i64 p, .int .i64 k] 87)).cell? ⟨g, 1, none⟩ = some (.slice QA Q.length qc) ∧ (wr.alloc (.cells #[.int .i64 i, .int .i64 p, .int .i64 k] 87)).cell? ⟨g, 2, none⟩ = some (.map (some m)) := ⟨blk_cell HB.out.2.book 0, blk_cell HB.out.2.book 1, blk_cell HB.out.2.book 2⟩
      obtain ⟨s0, s1, s2⟩ : (wr.alloc (.cells #[.int .i64 i, .int .i64 p, .int .i64 k] 87)).cell? ⟨wr.heap.size, 0, none⟩ = some (.int .i64 i) ∧ (wr.alloc (.cells #[.int .i64 i, .int .i64 p, .int .i64 k] 87)).cell? ⟨wr.heap.size, 1, none⟩ = some (.int .i64 p) ∧ (wr.alloc (.cells #[.int .i64 i, .int .i64 p, .int .i64 k] 87)).cell? ⟨wr.heap.size, 2, none⟩ = some (.int .i64 k) := ⟨blk_cell HS.out 0, blk_cell HS.out 1, blk_cell HS.out 2⟩
      have HCL := Lib.hid (show ∀ W, Bk (some pa) QA m P Q W → Calls Tryd.prog 63 #[.agg #[.slice (some pa) P.length pc, .slice QA Q.length qc, .map (some m)], .agg #[.int .i64 i, .int .i64 p, .int .i64 k]] W fun e w' => e = .returned (.bool (liesB (P.getD i z48) (Q.getD p z50) k)) ∧ Below W.heap.size W w' from fun W h => calls_lies (some pa) pc QA qc m P Q i p k hi hp hsz W h.planks h.parts)
      have hJn : spotB (P.getD i z48) (Q.getD p z50) k = (liesB (P.getD i z48) (Q.getD p z50) k && (canN (P.getD i z48) (Q.getD p z50) k == 2)) := rfl
      have HJN := Lib.hid hJn; clear hJn
      have hY2 := hY
      have HYY := Lib.hid hY2
      clear hY2 hY
      cases hlb : liesB (P.getD i z48) (Q.getD p z50) k with
      | false =>
        gi_wp2_with (first | (refine ⟨trivial, (fun h => by simp [Fence.wide] at h), ?_⟩; gi_at_call 63; have hbk := HB.out.1; (with_reducible refine (callsIn_wide.2 (HCL.out _ hbk)).mono ?_); clear hbk; rintro e w1 ⟨he, hb⟩; rw [hlb] at he; subst he; have HB := Lib.hid (HB.out.below hb); have HS := Lib.hid (below_far HS.out hb); have HG := Lib.hid (grown_trans HG.out (grown_of_below hb _)); clear hb b0 b1 b2 s0 s1 s2; obtain ⟨b0, b1, b2⟩ : w1.cell? ⟨g, 0, none⟩ = some (.slice (some pa) P.length pc) ∧ w1.cell? ⟨g, 1, none⟩ = some (.slice QA Q.length qc) ∧ w1.cell? ⟨g, 2, none⟩ = some (.map (some m)) := ⟨blk_cell HB.out.2.book 0, blk_cell HB.out.2.book 1, blk_cell HB.out.2.book 2⟩; obtain ⟨s0, s1, s2⟩ : w1.cell? ⟨wr.heap.size, 0, none⟩ = some (.int .i64 i) ∧ w1.cell? ⟨wr.heap.size, 1, none⟩ = some (.int .i64 p) ∧ w1.cell? ⟨wr.heap.size, 2, none⟩ = some (.int .i64 k) := ⟨blk_cell HS.out 0, blk_cell HS.out 1, blk_cell HS.out 2⟩) | (refine ⟨(trivial : Fence.wide.fn 64), ?_⟩))
        go_roundw
        case rel =>
          refine ⟨k + 1, by omega, by go_num, ?_, HB⟩
          rw [spots_next_no (by rw [HJN.out, hlb, Bool.false_and])]
          exact Lib.hid (hJ _ _ _ HJ0.out HG.out HB.out)
        case measure => simp [intOf]; omega
      | true =>
        have hfit := hok.fits hi hp hlb
        have HCC := Lib.hid (show ∀ W, Bk (some pa) QA m P Q W → Calls Tryd.prog 64 #[.agg #[.slice (some pa) P.length pc, .slice QA Q.length qc, .map (some m)], .agg #[.int .i64 i, .int .i64 p, .int .i64 k]] W fun e w' => e = .returned (.int .i64 (canN (P.getD i z48) (Q.getD p z50) k : Nat)) ∧ Bk (some pa) QA m P Q w' ∧ W.grownBy w' (some m) from fun W h => calls_bcan (some pa) pc QA qc m P Q i p k hi hp (hok.woodOk hi) hfit W h)
        have hc2 := canN_le (P.getD i z48) (Q.getD p z50) k
        obtain ⟨cn, hcc⟩ : ∃ cn, canN (P.getD i z48) (Q.getD p z50) k = cn := ⟨_, rfl⟩
        rw [hcc] at hc2
        by_cases hcn : cn = 2
        · subst hcn
          gi_wp2_with (first | (refine ⟨trivial, (fun h => by simp [Fence.wide] at h), ?_⟩; gi_at_call 63; have hbk := HB.out.1; (with_reducible refine (callsIn_wide.2 (HCL.out _ hbk)).mono ?_); clear hbk; rintro e w1 ⟨he, hb⟩; rw [hlb] at he; subst he; have HB := Lib.hid (HB.out.below hb); have HS := Lib.hid (below_far HS.out hb); have HG := Lib.hid (grown_trans HG.out (grown_of_below hb _)); clear hb b0 b1 b2 s0 s1 s2; obtain ⟨b0, b1, b2⟩ : w1.cell? ⟨g, 0, none⟩ = some (.slice (some pa) P.length pc) ∧ w1.cell? ⟨g, 1, none⟩ = some (.slice QA Q.length qc) ∧ w1.cell? ⟨g, 2, none⟩ = some (.map (some m)) := ⟨blk_cell HB.out.2.book 0, blk_cell HB.out.2.book 1, blk_cell HB.out.2.book 2⟩; obtain ⟨s0, s1, s2⟩ : w1.cell? ⟨wr.heap.size, 0, none⟩ = some (.int .i64 i) ∧ w1.cell? ⟨wr.heap.size, 1, none⟩ = some (.int .i64 p) ∧ w1.cell? ⟨wr.heap.size, 2, none⟩ = some (.int .i64 k) := ⟨blk_cell HS.out 0, blk_cell HS.out 1, blk_cell HS.out 2⟩) | (refine ⟨trivial, (fun h => by simp [Fence.wide] at h), ?_⟩; gi_at_call 64; have hbk := HB.out.1; (with_reducible refine (callsIn_wide.2 (HCC.out _ hbk)).mono ?_); clear hbk; rintro e w2 ⟨he, hb, hg⟩; rw [hcc] at he; subst he; have HB := Lib.hid (HB.out.grown hg hb); have HG := Lib.hid (grown_trans HG.out hg); clear hb hg))
          obtain ⟨fn, tmps, assign, body, hy, hRd⟩ := HYY.out _ k _ (hJ _ _ _ HJ0.out HG.out HB.out) HB.out (by rw [← hyt] at hlt; exact spots_prefix hlt (by rw [HJN.out, hlb, hcc]; rfl))
          rw [hy]
          have HRd := Lib.hid hRd; clear hRd
          gi_wp2
          refine ⟨fun h => by simp [Fence.wide] at h, HRd.out.mono ?_⟩
          rintro e W3 (⟨rfl, hJ3, hi3⟩ | ⟨rfl, hJx3⟩)
          · gi_wp2
            go_roundw
            case rel => exact ⟨k + 1, by omega, by go_num, by rw [spots_next_yes (by rw [HJN.out, hlb, hcc]; rfl)]; exact Lib.hid hJ3, Lib.hid hi3⟩
            case measure => simp [intOf]; omega
          · gi_wp2
            simp only [Exit.noGoto]
            gi_wp2
            refine bodyPost_ret (results_none rfl _ _ _) rfl ?_
            exact ⟨⟨_, rfl⟩, .inr ⟨_, by rw [← hyt] at hlt; exact spots_prefix hlt (by rw [HJN.out, hlb, hcc]; rfl), hJx3⟩⟩
        · have hcn1 : (cn : Int) < 2 := by omega
          gi_wp2_with (first | (refine ⟨trivial, (fun h => by simp [Fence.wide] at h), ?_⟩; gi_at_call 63; have hbk := HB.out.1; (with_reducible refine (callsIn_wide.2 (HCL.out _ hbk)).mono ?_); clear hbk; rintro e w1 ⟨he, hb⟩; rw [hlb] at he; subst he; have HB := Lib.hid (HB.out.below hb); have HS := Lib.hid (below_far HS.out hb); have HG := Lib.hid (grown_trans HG.out (grown_of_below hb _)); clear hb b0 b1 b2 s0 s1 s2; obtain ⟨b0, b1, b2⟩ : w1.cell? ⟨g, 0, none⟩ = some (.slice (some pa) P.length pc) ∧ w1.cell? ⟨g, 1, none⟩ = some (.slice QA Q.length qc) ∧ w1.cell? ⟨g, 2, none⟩ = some (.map (some m)) := ⟨blk_cell HB.out.2.book 0, blk_cell HB.out.2.book 1, blk_cell HB.out.2.book 2⟩; obtain ⟨s0, s1, s2⟩ : w1.cell? ⟨wr.heap.size, 0, none⟩ = some (.int .i64 i) ∧ w1.cell? ⟨wr.heap.size, 1, none⟩ = some (.int .i64 p) ∧ w1.cell? ⟨wr.heap.size, 2, none⟩ = some (.int .i64 k) := ⟨blk_cell HS.out 0, blk_cell HS.out 1, blk_cell HS.out 2⟩) | (refine ⟨trivial, (fun h => by simp [Fence.wide] at h), ?_⟩; gi_at_call 64; have hbk := HB.out.1; (with_reducible refine (callsIn_wide.2 (HCC.out _ hbk)).mono ?_); clear hbk; rintro e w2 ⟨he, hb, hg⟩; rw [hcc] at he; subst he; have HB := Lib.hid (HB.out.grown hg hb); have HG := Lib.hid (grown_trans HG.out hg); clear hb hg))
          go_roundw
          case rel =>
            refine ⟨k + 1, by omega, by go_num, ?_, HB⟩
            rw [spots_next_no (by rw [HJN.out, hlb, hcc, Bool.true_and]; simpa using hcn)]
            exact Lib.hid (hJ _ _ _ HJ0.out HG.out HB.out)
          case measure => simp [intOf]; omega
    · obtain rfl : k = L := by omega
      gi_wp2
      simp only [Exit.noGoto]
      gi_wp2
      go_end0
      exact ⟨⟨_, rfl⟩, .inl ⟨by unfold spotsL; rw [hyt]; exact HJ0.out, HB.out⟩⟩
end Go.Proofs.YtekjlpldooihhaaDoorP
namespace Go.Proofs.YtekjlpldooihhaaDoorH
set_option linter.unusedVariables false
set_option linter.unusedSimpArgs false
open Go.RowKit Go.Proofs.YtekjlpldooihhaaDoorW.PrintWords Go.Proofs.YtekjlpldooihhaaDoorW.PrintLast
theorem wide_fn (f : FuncId) : Fence.wide.fn f := trivial
def Plain (Q : Exit → Act → World → Prop) : Exit → Act → World → Prop
  | .normal, a, w => Q .normal a w
  | _, _, _ => False
theorem Plain.normal {Q : Exit → Act → World → Prop} {a : Act} {w : World} (h : Q .normal a w) : Plain Q .normal a w := h
theorem Plain.imp {Q : Exit → Act → World → Prop} : ∀ (e : Exit) (a : Act) (w : World), Plain Q e a w → Q e a w := fun e a w h => by
  cases e <;> first | exact h | exact (h : False).elim
def noDefer (ops : Array Oper) : Bool := ops.all fun o => match o.op with | .defer _ => false | _ => true
section
variable {P : Program} {ops : Array Oper} {Q : Exit → Act → World → Prop} {md : Region.Mode} {l n : Nat}
theorem upon_round {o : Oper} {a : Act} {next : Act → World → Prop} : ∀ {r : Result Next}, o.upon P a next Q r → o.uponIn (Fence.wide.inRound l) n P a next Q r
  | .ok (.value _) _, h => h
  | .ok .skip _, h => h
  | .ok (.defer _) _, h => h
  | .ok (.enter _ _) _, h => ⟨fun h0 => by simp [Fence.wide] at h0, (callsIn_wide.2 h : CallsIn Fence.wide _ P _ _ _ _)⟩
  | .ok (.row _ _) _, h => ⟨fun h0 => by simp [Fence.wide] at h0, fun c cs _ => let ⟨v, w', r, s⟩ := h c cs; ⟨v, w', r, (stepsIn_wide.2 s : StepsIn (Machine.fenced P Fence.wide) P _ _)⟩⟩
  | .ok (.round _ _ _ _ _) _, h => h.elim
  | .halt (.panic _) _, h => h
theorem wpOp_round (hd : noDefer ops = true) (hL : ¬ LetsOut Q) {i : Nat} {K : Act → World → Prop} {a : Act} {w : World} (h : wpOp P ops Q i K a w) : wpOpIn (Fence.wide.inRound l) n P ops Q i K a w := by
  unfold wpOp at h
  unfold wpOpIn
  cases ho : ops[i]? with
  | none => rw [ho] at h; exact h
  | some o =>
    rw [ho] at h
    simp only at h ⊢
    have hdo : ∀ c, o.op ≠ .defer c := fun c e => by
      have := Array.all_eq_true_iff_forall_mem.1 hd o (Array.mem_of_getElem? ho)
      rw [e] at this; cases this
    split
    · rename_i hw
      rw [if_pos hw] at h
      rcases h with h | h
      · unfold Oper.wpIn
        refine ⟨fun _ _ => trivial, ?_⟩
        have e : o.semAt (Fence.wide.inRound l).round a.eval = execOp a.eval o := Oper.semAt_some l a.eval o hdo
        rw [e]
        exact upon_round h
      · exact absurd h.2 hL
    · rename_i hw
      rw [if_neg hw] at h
      exact ⟨fun _ _ => trivial, h⟩
theorem wpAny_round (hd : noDefer ops = true) (hL : ¬ LetsOut Q) : ∀ (fuel : Nat) (listed : Array Bool) (a : Act) (w : World), wpAny P md ops Q fuel listed a w → wpAnyIn (Fence.wide.inRound l) n P md ops Q fuel listed a w
  | 0, _, _, _, h => h
  | fuel + 1, _, _, _, h => ⟨h.1, fun i hi => wpOpIn_mono (fun a w h' => wpAny_round hd hL fuel _ a w h') (wpOp_round hd hL (h.2 i hi))⟩
theorem startR_ {id k : Nat} {a : Act} {w : World} {S : World → Prop} {ds : List Nat} (hd : noDefer ops = true) (b : Array Bool) (hm : P.follows .mixedOrders = true) (hn : ops.size = k) (hl : Array.replicate k false = b) (hS : S w.drew)
    (h : S w.drew → wpAnyLast P .any ops (Plain Q) S ds k b a w.drew) : (Code.region id ops true).wpIn (Fence.wide.inRound l) n P Q a w := by
  subst hn
  subst hl
  refine wpIn_mono (wpIn_region_any hm (wpAny_round hd (fun h0 => ?_) _ _ _ _ (wpAny_of_last _ _ _ _ (h hS)))) Plain.imp
  obtain ⟨_, _, h1⟩ := h0
  exact h1
end
section
variable {P : Program} {l n : Nat} {ops : Array Oper} {Q : Exit → Act → World → Prop} {a : Act} {w : World} {rest : List Oper} {o : Oper}
theorem gateR_dst {N : Tmp} (_ho : o.dst = some N) (h : wpListIn (Fence.wide.inRound l) n P ops Q (o :: rest) a w) : wpListIn (Fence.wide.inRound l) n P ops Q (o :: rest) a w := h
theorem gateR_store {t : TypeId} {p : Tmp} {v : Operand} (_ho : o.op = .store t (.tmp p) v) (h : wpListIn (Fence.wide.inRound l) n P ops Q (o :: rest) a w) : wpListIn (Fence.wide.inRound l) n P ops Q (o :: rest) a w := h
theorem wpListR_of (hgd : o.guard = none) (hd : ∀ c, o.op ≠ .defer c) (h : o.wp P a w (wpListIn (Fence.wide.inRound l) n P ops Q rest) Q) : wpListIn (Fence.wide.inRound l) n P ops Q (o :: rest) a w := by
  unfold wpListIn
  rw [if_pos (by simp [Region.wanted, hgd])]
  unfold Oper.wpIn
  refine ⟨fun _ _ => trivial, ?_⟩
  have e : o.semAt (Fence.wide.inRound l).round a.eval = execOp a.eval o := Oper.semAt_some l a.eval o hd
  rw [e]
  exact upon_round h
theorem wpListR_load_row (hgd : o.guard = none) (ty : TypeId) (x : Operand) (ho : o.op = .load ty x) (g : Nat) (hx : a.eval x = .pointer (some ⟨g, 0, none⟩)) (t : TypeId) (cs : Array Value) (fr : Nat × Nat) (d : TypeDesc) (hg : w.heap[g]? = some (.cells cs t fr))
    (hu : P.underlying ty = some d) (hd : (match d with | .struct _ | .array _ _ => true | _ => false) = true) (hi : (P.info? ty).map (·.size) = some cs.size)
    (h : wpListIn (Fence.wide.inRound l) n P ops Q rest (a.put o.dst (.agg cs)) w) : wpListIn (Fence.wide.inRound l) n P ops Q (o :: rest) a w :=
  wpListR_of hgd (fun c e => by rw [ho] at e; cases e) (wp_load_row ty x ho g hx t cs fr d hg hu hd hi h)
theorem wpListR_store_row (hgd : o.guard = none) (ty : TypeId) (x y : Operand) (ho : o.op = .store ty x y) (g : Nat) (cells : Array Value) (hx : a.eval x = .pointer (some ⟨g, 0, none⟩)) (hy : a.eval y = .agg cells)
    (t : TypeId) (old : Array Value) (hg : w.heap[g]? = some (.cells old t (0, 0))) (hi : (P.info? ty).map (·.size) = some cells.size) (hold : old.size = cells.size) (h1 : cells.all (·.oneCell') = true)
    (h : wpListIn (Fence.wide.inRound l) n P ops Q rest (a.put o.dst undef) (w.setRow g cells)) : wpListIn (Fence.wide.inRound l) n P ops Q (o :: rest) a w :=
  wpListR_of hgd (fun c e => by rw [ho] at e; cases e) (wp_store_row ty x y ho g cells hx hy t old hg hi hold h1 h)
end
end Go.Proofs.YtekjlpldooihhaaDoorH
namespace Go.Proofs.YtekjlpldooihhaaDoorP
open Go.RowKit Go.Proofs.YtekjlpldooihhaaDoorW.PrintWords Go.Proofs.YtekjlpldooihhaaDoorW.PrintLast Go.Proofs.YtekjlpldooihhaaDoorW.PrintMore Go.Proofs.YtekjlpldooihhaaDoorH Go.Proofs.YtekjlpldooihhaaDoorEv Go.Proofs.YtekjlpldooihhaaDoor.PA
set_option linter.unusedVariables false
set_option linter.unusedSimpArgs false
def ints (l : List Nat) : List Int := l.map Int.ofNat
theorem ints_length (l : List Nat) : (ints l).length = l.length := by simp [ints]
theorem ints_append (a b : List Nat) : ints (a ++ b) = ints a ++ ints b := by simp [ints]
def VI (base : Nat) (W : World) (v : Value) (xs : List Int) : Prop := ∃ A c, v = .slice A xs.length c ∧ xs.length ≤ c ∧ Kd.C (Kd.int .i64) W A xs.length xs ∧ ∀ ad, A = some ad → base ≤ ad.block
theorem VI.cells {base : Nat} {W W1 : World} {v : Value} {xs : List Int} (h : VI base W v xs) (hc : Cells W W1) : VI base W1 v xs := by
  obtain ⟨A, c, h1, h2, h3, h4⟩ := h
  exact ⟨A, c, h1, h2, C_keeps keeps_int hc h3, h4⟩
theorem below_cells {w w1 : World} (hb : Below w.heap.size w w1) : Cells w w1 := fun a v h => pw_cell_below hb h
theorem VI.below {base : Nat} {W W1 : World} {v : Value} {xs : List Int} (h : VI base W v xs) (hb : Below W.heap.size W W1) : VI base W1 v xs := h.cells (below_cells hb)
theorem VI.nil (base : Nat) (W : World) : VI base W (.slice none 0 0) [] := ⟨none, 0, rfl, Nat.le_refl _, Kd.C_nil _ _, fun ad e => by cases e⟩
theorem VI.V {base b : Nat} {W : World} {v : Value} {xs : List Int} (h : VI base W v xs) : Kd.V (Kd.int .i64) 3 W b (fun k => base ≤ k) v xs := by
  obtain ⟨A, c, rfl, h2, h3, h4⟩ := h
  refine Kd.V_mk h2 (fun W' hW => ?_)
  obtain ⟨hl, hm, hd⟩ := h3
  refine ⟨hl, hm, fun h0 => ?_⟩
  obtain ⟨ad, rfl, h1⟩ := hd h0
  refine ⟨ad, rfl, fun j x hx => ?_⟩
  obtain ⟨cs, c1, c2, c3⟩ := h1 j x hx
  refine ⟨cs, c1, c2, fun i u hi => ?_⟩
  have hc := c3 i u hi
  have hblk : (ad.add (j * (Kd.int .i64).sz + i)).block = ad.block := by unfold Addr.add; split <;> rfl
  have hlt := World.block_lt_of_cell? W _ hc
  rw [hblk] at hlt
  have hs := hW ad.block (h4 ad rfl) hlt
  unfold World.cell? at hc ⊢
  rw [hblk] at hc ⊢
  rw [hs]; exact hc
theorem VI.of_own {base b : Nat} {W : World} {v : Value} {n : Nat} {xs : List Int} (h : W.ownsRow b 3 1 v n (xs.map (Value.int .i64))) (hn : n = xs.length) (hb : base ≤ b) : VI base W v xs := by
  subst hn
  have h1 : (Kd.int .i64).R 3 W b (fun _ => True) v xs := Kd.R_of_own (by rw [encs_map]; exact h) (fun _ _ => trivial)
  obtain ⟨A, c, rfl, h2, h3⟩ := Kd.R_reads h1
  refine ⟨A, c, rfl, h2, h3, fun ad e => ?_⟩
  subst e
  have := own_base h ad.block
  rcases h.2 with ⟨e1, e2⟩ | ⟨g, cap, cur, e1, hg, hh, _⟩
  · cases e1
  · injection e1 with e1 _ _
    injection e1 with e1
    rw [e1]
    show base ≤ g
    omega
def freeB (taken : Nat → Bool) (a L : Nat) : Bool := !(List.range' a L).any taken
def markB (taken : Nat → Bool) (a L : Nat) : Nat → Bool := fun j => taken j || (decide (a ≤ j) && decide (j < a + L))
def laidFrom (y : S48) (Q : List S50) : List Nat → (Nat → Bool) → List Nat → Option (List Nat)
  | [], _, out => some out
  | p :: ps, taken, out => (spotsL y (Q.getD p z50)).findSome? fun a =>
      if freeB taken a (Q.getD p z50).f0.toNat then laidFrom y Q ps (markB taken a (Q.getD p z50).f0.toNat) (out ++ [a]) else none
structure LayInv (PA : Option Addr) (pc : Nat) (QA : Option Addr) (qc m : Nat) (P : List S48) (Q : List S50) (i : Nat) (BA : Option Addr) (bc : Nat) (ps : List Nat) (gp gb gl gf : Nat) (W : World) : Prop where
  bk : Bk PA QA m P Q W
  list : Kd.C (Kd.int .i64) W BA (ints ps).length (ints ps)
  parts : W.heap[gp]? = some (.cells #[.slice BA ps.length bc] 31 (0, 0))
  book : W.heap[gb]? = some (.cells #[.slice PA P.length pc, .slice QA Q.length qc, .map (some m)] 84 (0, 0))
  plank : W.heap[gl]? = some (.cells #[.int .i64 i] 3 (0, 0))
  fn : W.heap[gf]? = some (.cells #[.func (.func 103) #[] #[.pointer (some ⟨gp, 0, none⟩), .pointer (some ⟨gb, 0, none⟩), .pointer (some ⟨gl, 0, none⟩), .pointer (some ⟨gf, 0, none⟩)]] 129 (0, 0))
theorem LayInv.below {PA : Option Addr} {pc : Nat} {QA : Option Addr} {qc m : Nat} {P : List S48} {Q : List S50} {i : Nat} {BA : Option Addr} {bc : Nat} {ps : List Nat} {gp gb gl gf : Nat} {W W1 : World} (h : LayInv PA pc QA qc m P Q i BA bc ps gp gb gl gf W) (hb : Below W.heap.size W W1) : LayInv PA pc QA qc m P Q i BA bc ps gp gb gl gf W1 :=
  ⟨h.bk.below hb, Kd.C_below h.list hb, below_far h.parts hb, below_far h.book hb, below_far h.plank hb, below_far h.fn hb⟩
theorem LayInv.grown {PA : Option Addr} {pc : Nat} {QA : Option Addr} {qc m : Nat} {P : List S48} {Q : List S50} {i : Nat} {BA : Option Addr} {bc : Nat} {ps : List Nat} {gp gb gl gf : Nat} {W W1 : World} (h : LayInv PA pc QA qc m P Q i BA bc ps gp gb gl gf W) (hg : W.grownBy W1 (some m)) (hb : Bk PA QA m P Q W1) : LayInv PA pc QA qc m P Q i BA bc ps gp gb gl gf W1 :=
  ⟨hb, C_keeps keeps_int (grown_cells h.bk.is hg) h.list, blk_grownM h.parts h.bk.is hg, blk_grownM h.book h.bk.is hg, blk_grownM h.plank h.bk.is hg, blk_grownM h.fn h.bk.is hg⟩
def CB (A B : World) : Prop := ∀ (g : Nat) (cs : Array Value) (t : TypeId) (fr : Nat × Nat), A.heap[g]? = some (.cells cs t fr) → B.heap[g]? = some (.cells cs t fr)
theorem CB.cells {A B : World} (h : CB A B) : Cells A B := by
  intro a v hv
  unfold World.cell? at hv
  cases hb : A.heap[a.block]? with
  | none => rw [hb] at hv; simp at hv
  | some o =>
    cases o with
    | cells cs t fr =>
      have h2 := h _ _ _ _ hb
      unfold World.cell?
      rw [h2]
      rw [hb] at hv
      exact hv
    | _ => rw [hb] at hv; simp at hv
theorem CB.grown {A B : World} {m : Nat} (hm : IsMap A m) (hg : A.grownBy B (some m)) : CB A B := fun g cs t fr h => blk_grownM h hm hg
theorem CB.turn {A B : World} {row : Option Nat} {b : Nat} (hg : A.grownBy B row) (hr : ∀ r, row = some r → b ≤ r ∧ ∃ o : Obj, A.heap[r]? = some o ∧ o.isCells = false) : CB A B := fun g cs t fr h => turn_cells h hg hr
theorem Bk.turn {PA QA : Option Addr} {m : Nat} {P : List S48} {Q : List S50} {A B : World} {row : Option Nat} {b : Nat} (h : Bk PA QA m P Q A) (hm : m < b) (hg : A.grownBy B row) (hr : ∀ r, row = some r → b ≤ r ∧ ∃ o : Obj, A.heap[r]? = some o ∧ o.isCells = false) : Bk PA QA m P Q B := by
  have hc := (CB.turn hg hr).cells
  obtain ⟨h1, h2, h3, f, h4, h5⟩ := h
  exact ⟨h1.cells hc, C_keeps keeps_wood hc h2, C_keeps keeps_shape hc h3, f, turn_map h4 hm hg hr, h5⟩
theorem grown_turn {w A B : World} {m : Nat} {row : Option Nat} {b : Nat} (h : w.grownBy A (some m)) (hb : w.heap.size ≤ b) (hg : A.grownBy B row) (hr : ∀ r, row = some r → b ≤ r ∧ ∃ o : Obj, A.heap[r]? = some o ∧ o.isCells = false) : w.grownBy B (some m) :=
  ⟨hg.os.trans h.os, hg.tape.trans h.tape, hg.output.trans h.output, Nat.le_trans h.size hg.size, fun k hk hne => (hg.block k (Nat.lt_of_lt_of_le hk h.size) (fun e => by have := (hr k e.symm).1; omega)).trans (h.block k hk hne)⟩
theorem grown_set {w A : World} {m : Nat} (h : w.grownBy A (some m)) (p : Addr) (v : Value) (hp : w.heap.size ≤ p.block) : w.grownBy (A.setCell p v) (some m) := by
  have hs := Below.setCell (Below.refl w.heap.size A) hp v
  exact ⟨hs.os.trans h.os, hs.tape.trans h.tape, hs.output.trans h.output, Nat.le_trans h.size hs.size, fun k hk hne => (hs.block k hk).trans (h.block k hk hne)⟩
theorem grown_belowM {w A B : World} {m : Nat} (h : w.grownBy A (some m)) (hb : Below A.heap.size A B) : w.grownBy B (some m) := grown_trans h (grown_of_below hb _)
theorem VI.set {base : Nat} {W : World} {v : Value} {xs : List Int} (h : VI base W v xs) {p : Addr} (hp : ∀ n, W.cell? p ≠ some (.int .i64 n)) (u : Value) : VI base (W.setCell p u) v xs := by
  obtain ⟨A, c, h1, h2, h3, h4⟩ := h
  refine ⟨A, c, h1, h2, ?_, h4⟩
  obtain ⟨hl, hm, hd⟩ := h3
  refine ⟨hl, hm, fun h0 => ?_⟩
  obtain ⟨ad, e, h5⟩ := hd h0
  refine ⟨ad, e, fun j x hx => ?_⟩
  obtain ⟨cs, c1, c2, c3⟩ := h5 j x hx
  refine ⟨cs, c1, c2, fun i u' hi => ?_⟩
  have hc := c3 i u' hi
  have hcs : cs = [.int .i64 x] := c2
  subst hcs
  have hi0 : i = 0 := by have := (List.getElem?_eq_some_iff.1 hi).1; simpa using this
  subst hi0
  obtain rfl : Value.int .i64 x = u' := by simpa using hi
  exact (World.cell?_setCell_other _ _ _ _ (fun e => hp x (by rw [e]; exact hc))).trans hc
theorem Bk.back {PA QA : Option Addr} {m : Nat} {P : List S48} {Q : List S50} {w W : World} (h : Bk PA QA m P Q w) (hg : w.grownBy W (some m)) (hm : ∃ f, MapFn 3 W m f ∧ Memo P Q f) : Bk PA QA m P Q W := by
  have hc := grown_cells h.is hg
  exact ⟨h.glob.cells hc, C_keeps keeps_wood hc h.planks, C_keeps keeps_shape hc h.parts, hm⟩
structure Frame (w : World) (m : Nat) (taken : Nat → Bool) (A : Option Addr) (k c : Nat) (W : World) : Prop where
  t0 : W.heap[w.heap.size]? = some (.cells (rowI taken) 131 (0, 0))
  t1 : W.heap[w.heap.size + 1]? = some (.cells #[.slice A k c] 31 (0, 0))
  t2 : W.heap[w.heap.size + 1 + 1]? = some (.cells #[.slice none 0 0] 31 (0, 0))
  t3 : W.heap[w.heap.size + 1 + 1 + 1]? = some (.cells #[.bool false] 4 (0, 0))
  t4 : W.heap[w.heap.size + 1 + 1 + 1 + 1]? = some (.cells #[.int .i64 k] 3 (0, 0))
  rel : w.grownBy W (some m)
theorem Frame.move {w : World} {m : Nat} {taken : Nat → Bool} {A : Option Addr} {k c : Nat} {W W1 : World} (h : Frame w m taken A k c W) (hc : CB W W1) (hr : w.grownBy W1 (some m)) : Frame w m taken A k c W1 :=
  ⟨hc _ _ _ _ h.t0, hc _ _ _ _ h.t1, hc _ _ _ _ h.t2, hc _ _ _ _ h.t3, hc _ _ _ _ h.t4, hr⟩
theorem CB.below {A B : World} (hb : Below A.heap.size A B) : CB A B := fun g cs t fr h => below_far h hb
theorem LayInv.move {PA : Option Addr} {pc : Nat} {QA : Option Addr} {qc m : Nat} {P : List S48} {Q : List S50} {i : Nat} {BA : Option Addr} {bc : Nat} {ps : List Nat} {gp gb gl gf : Nat} {W W1 : World} (h : LayInv PA pc QA qc m P Q i BA bc ps gp gb gl gf W) (hc : CB W W1) (hb : Bk PA QA m P Q W1) : LayInv PA pc QA qc m P Q i BA bc ps gp gb gl gf W1 :=
  ⟨hb, C_keeps keeps_int hc.cells h.list, hc _ _ _ _ h.parts, hc _ _ _ _ h.book, hc _ _ _ _ h.plank, hc _ _ _ _ h.fn⟩
theorem SpotInv.of {PA : Option Addr} {pc : Nat} {QA : Option Addr} {qc m : Nat} {P : List S48} {Q : List S50} {i p g : Nat} {W W1 : World} (h : SpotInv PA pc QA qc m P Q i p g W) (hc : CB W W1) (hb : Bk PA QA m P Q W1) : SpotInv PA pc QA qc m P Q i p g W1 :=
  ⟨hb, ⟨hc _ _ _ _ h.2.book, hc _ _ _ _ h.2.plank, hc _ _ _ _ h.2.part⟩⟩
def LayPost (base : Nat) (r : Option (List Nat)) (e : Ending) (w' : World) : Prop :=
  match r with
  | some o => ∃ v, e = .returned (.tuple #[v, .bool true]) ∧ VI base w' v (ints o)
  | none => e = .returned (.tuple #[.slice none 0 0, .bool false])
def LayTold (base : Nat) (r : Option (List Nat)) (v : Value) (b : Bool) (w' : World) : Prop :=
  match r with
  | some o => b = true ∧ VI base w' v (ints o)
  | none => b = false ∧ v = .slice none 0 0
theorem LayPost.told {base : Nat} {r : Option (List Nat)} {e : Ending} {w' : World} (h : LayPost base r e w') : ∃ v b, e = .returned (.tuple #[v, .bool b]) ∧ LayTold base r v b w' := by
  cases r with
  | some o => obtain ⟨v, h1, h2⟩ := h; exact ⟨v, true, h1, rfl, h2⟩
  | none => exact ⟨_, false, h, rfl, rfl⟩
theorem LayTold.post {base : Nat} {r : Option (List Nat)} {v : Value} {b : Bool} {w' : World} (h : LayTold base r v b w') : LayPost base r (.returned (.tuple #[v, .bool b])) w' := by
  cases r with
  | some o => obtain ⟨rfl, h2⟩ := h; exact ⟨v, rfl, h2⟩
  | none => obtain ⟨rfl, rfl⟩ := h; rfl
theorem infoInt : (Tryd.prog.info? 3).map (fun i => (i.zero, i.size, i.bytes)) = some (some (.int .i64 0), 1, 8) := by kernel_rfl
def LaySaid (PA : Option Addr) (pc : Nat) (QA : Option Addr) (qc m : Nat) (P : List S48) (Q : List S50) (i : Nat) (BA : Option Addr) (bc : Nat) (ps : List Nat) (gp gb gl gf base d : Nat) : Prop :=
  ∀ (out : List Nat) (hd : out.length + d = ps.length) (taken : Nat → Bool) (A : Option Addr) (c : Nat) (w : World)
    (hL : LayInv PA pc QA qc m P Q i BA bc ps gp gb gl gf w) (hA : A = none → out.length = 0) (hV : VI base w (.slice A out.length c) (ints out)) (hbase : base ≤ w.heap.size),
    Calls Tryd.prog 103 #[.agg (rowI taken), .slice A out.length c, .pointer (some ⟨gp, 0, none⟩), .pointer (some ⟨gb, 0, none⟩), .pointer (some ⟨gl, 0, none⟩), .pointer (some ⟨gf, 0, none⟩)] w fun e w' =>
      Bk PA QA m P Q w' ∧ w.grownBy w' (some m) ∧ LayPost base (laidFrom (P.getD i z48) Q (ps.drop out.length) taken out) e w'
set_option maxRecDepth 100000 in
set_option maxHeartbeats 1000000 in
theorem lay_zero (PA : Option Addr) (pc : Nat) (QA : Option Addr) (qc m : Nat) (P : List S48) (Q : List S50) (hok : Ok P Q) (i : Nat) (hi : i < P.length) (BA : Option Addr) (bc : Nat) (ps : List Nat) (hps : ∀ p ∈ ps, p < Q.length) (h5 : ps.length ≤ 5) (gp gb gl gf base : Nat) : LaySaid PA pc QA qc m P Q i BA bc ps gp gb gl gf base 0 := by
    intro out hd taken A c w hL hA hV hbase
    obtain ⟨n0, n1, n2, n3, n4⟩ := new3 w (.cells (rowI taken) 131) (.cells #[.slice A out.length c] 31) (.cells #[.slice none 0 0] 31)
    have hdr : ps.drop out.length = [] := List.drop_eq_nil_of_le (by omega)
    rw [hdr]
    have hfr : laidFrom (P.getD i z48) Q [] taken out = some out := rfl
    rw [hfr]
    have hp0 : w.cell? ⟨gp, 0, none⟩ = some (.slice BA ps.length bc) := blk_cell hL.parts 0
    have hgp : gp < w.heap.size := blk_lt hL.parts
    have hgp1 : gp < w.heap.size + 1 := by omega
    have hgp2 : gp < w.heap.size + 1 + 1 := by omega
    have hgp3 : gp < w.heap.size + 1 + 1 + 1 := by omega
    have hgp4 : gp < w.heap.size + 1 + 1 + 1 + 1 := by omega
    have hkn : ((out.length : Int) == (ps.length : Int)) = true := by simp; omega
    obtain ⟨m0, m1, m2, m3, m4⟩ := new3 w (.cells (rowI taken) 131) (.cells #[.slice A out.length c] 31) (.cells #[.slice A out.length c] 31)
    have HL := Lib.hid hL; have HV := Lib.hid hV
    have HM2 := Lib.hid m2; have HM3 := Lib.hid m3; have HM4 := Lib.hid m4
    clear n0 n1 n2 n3 n4 m0 m1 m2 m3 m4 hL hV hfr hdr
    go_enter Tryd.func103, Tryd.ntmps103
    go_wp2_with fail
    obtain ⟨k0, k1, k2, k3⟩ := new2 (((w.alloc (.cells (rowI taken) 131)).alloc (.cells #[.slice A out.length c] 31)).alloc (.cells #[.slice A out.length c] 31)) (.cells #[.bool true] 4) (.cells #[.int .i64 out.length] 3)
    have h2 := below_far HM2.out k2
    have hbw := HM3.out.trans (k2.mono (by rw [HM4.out]; omega))
    rw [HM4.out] at k0
    refine bodyPost_ret (results_cell_two rfl (g := w.heap.size + 1 + 1) (k := w.heap.size + 1 + 1 + 1) (v := .slice A out.length c) (z := .bool true) rfl rfl (blk_cell h2 0) (blk_cell k0 0) Tryd.underlying31 rfl Tryd.underlying4 rfl) rfl ⟨HL.out.bk.below hbw, grown_of_below hbw _, _, rfl, HV.out.below hbw⟩
end Go.Proofs.YtekjlpldooihhaaDoorP
