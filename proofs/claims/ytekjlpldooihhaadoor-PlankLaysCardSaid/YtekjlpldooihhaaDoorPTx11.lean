/- Printed by a program (prx.py). -/
import Derived.Test.YtekjlpldooihhaaDoorRw
import Derived.Test.YtekjlpldooihhaaDoorSv
import Derived.Test.YtekjlpldooihhaaDoorPTx3
namespace Go.Proofs.YtekjlpldooihhaaDoor.PT
open Go.Proofs.YtekjlpldooihhaaDoorSh
open Go.Proofs.YtekjlpldooihhaaDoor.PA (S48 S50 S60 at_L2 at_L4 at_T48 at_T50 at_T60 errW errW_none errW_some k48 k48_mk k48_mkM k48_open k48_openM k50 k50_mk k50_mkM k50_open k50_openM k60 k60_mk k60_mkM k60_open k60_openM rd_L2 rd_L4 rd_T48 rd_T50 rd_T60 z48 z50 z60)
open Go.Proofs.YtekjlpldooihhaaDoorP Go.Proofs.YtekjlpldooihhaaDoorA Go.Proofs.YtekjlpldooihhaaDoorK
open Go.RowKit Go.Proofs.YtekjlpldooihhaaDoorW.PrintWords Go.Proofs.YtekjlpldooihhaaDoorW.PrintLast Go.Proofs.YtekjlpldooihhaaDoorW.PrintMore
attribute [local go_sem] max2_int min2_int max_two min_two max_three min_three max_four min_four
set_option linter.unusedVariables false
set_option linter.unusedSimpArgs false
mutual
def skewbaldref01_ends.l0 : Nat → Int → List Int → Int → List (S48) → List (S50) → Option (List Int)
 | 0, _, _, _, _, _ => none
 | k + 1, x1, x5, x6, x227000, x227001 => if x6 < (x5.length : Int) then (if 0 ≤ x6 then (skewbaldref01_ends.l1 k x1 (x5.set (x6 : Int).toNat 99) x6 0 x227000 x227001) else (none)) else (some x5)
def skewbaldref01_ends.l1 : Nat → Int → List Int → Int → Int → List (S48) → List (S50) → Option (List Int)
 | 0, _, _, _, _, _, _ => none
 | k + 1, x1, x5, x6, x7, x227000, x227001 => if x7 < (x227001.length : Int) then ((skewbaldref00_Of.f x6 x7).bind fun t231 => (if t231 = true then (if 0 ≤ x7 then (if 0 ≤ (wrap64 (x6 - (shl .i64 1 x7))) then (if (wrap64 (x6 - (shl .i64 1 x7))) < (x5.length : Int) then ((skewbaldref01_spots.f k x227000 x227001 x1 x7).bind fun t233 => (skewbaldref01_ends.l2 k x1 x5 x6 x7 (rd x5 (wrap64 (x6 - (shl .i64 1 x7)))) t233 0 x227000 x227001)) else (none)) else (none)) else (none)) else (skewbaldref01_ends.l1 k x1 x5 x6 (wrap64 (x7 + 1)) x227000 x227001))) else (skewbaldref01_ends.l0 k x1 x5 (wrap64 (x6 + 1)) x227000 x227001)
def skewbaldref01_ends.l2 : Nat → Int → List Int → Int → Int → Int → List Int → Int → List (S48) → List (S50) → Option (List Int)
 | 0, _, _, _, _, _, _, _, _, _ => none
 | k + 1, x1, x5, x6, x7, x8, x9, x10, x227000, x227001 => if x10 < (x9.length : Int) then (if 0 ≤ x10 then (if (rd x9 x10) ≥ x8 then (if 0 ≤ x6 then (if x6 < (x5.length : Int) then (if 0 ≤ x7 then (if x7 < (x227001.length : Int) then (skewbaldref01_ends.l2 k x1 (x5.set (x6 : Int).toNat (mn (rd x5 x6) (wrap64 ((rd x9 x10) + ((rd_T50 x227001 x7).f0))))) x6 x7 x8 x9 (wrap64 (x10 + 1)) x227000 x227001) else (none)) else (none)) else (none)) else (none)) else (skewbaldref01_ends.l2 k x1 x5 x6 x7 x8 x9 (wrap64 (x10 + 1)) x227000 x227001)) else (none)) else (skewbaldref01_ends.l1 k x1 x5 x6 (wrap64 (x7 + 1)) x227000 x227001)
end
def skewbaldref01_ends.f (k : Nat) (l0_0 : List (S48)) (l0_1 : List (S50)) (a1 : Int) : Option (List Int) := if 0 ≤ (shl .i64 1 (l0_1.length : Int)) then (if (shl .i64 1 (l0_1.length : Int) : Int).toNat ≤ 35184372088832 then (skewbaldref01_ends.l0 k a1 (List.replicate (shl .i64 1 (l0_1.length : Int) : Int).toNat 0) 1 l0_0 l0_1) else (none)) else (none)
def skewbaldref01_ends.T10 : Bool × List (List Nat × List Nat) := (true, [([], []), ([], []), ([], []), ([2], [2]), ([1, 3], [1, 3]), ([0, 4], [0, 4]), ([5], [5]), ([], []), ([], []), ([], []), ([7, 8, 9], [7, 8, 9]), ([6, 10, 0, 1, 2, 3, 4, 5, 6], [6]), ([10, 11, 0, 1, 2, 3, 4, 5, 6, 7, 8, 9, 10, 11], [10])])
def skewbaldref01_ends.B10 : List Nat := [0, 0, 0, 4, 14, 31, 63, 0, 0, 0, 896, 2047, 4095]
theorem skewbaldref01_ends.tab10 : rtab .any (opsOf Tryd.f77 10) = skewbaldref01_ends.T10 := by kernel_rfl
theorem skewbaldref01_ends.bits10 : waitsOk skewbaldref01_ends.T10.2 skewbaldref01_ends.B10 = true := by kernel_rfl
def skewbaldref01_ends.T15 : Bool × List (List Nat × List Nat) := (true, [([], []), ([], []), ([], []), ([], []), ([2, 3], [2, 3]), ([4], [4]), ([], []), ([], []), ([6, 7], [6, 7]), ([8], [8]), ([], []), ([10], [10]), ([], []), ([11, 12], [11, 12]), ([13], [13]), ([14], [14]), ([9, 15], [9, 15]), ([5, 16], [5, 16]), ([0, 1, 0, 1, 2, 3, 4, 5, 6, 7, 8, 9, 10, 11, 12, 13, 14, 15, 16, 17], [0, 1]), ([18, 17, 0, 1, 2, 3, 4, 5, 6, 7, 8, 9, 10, 11, 12, 13, 14, 15, 16, 17], [17, 18])])
def skewbaldref01_ends.B15 : List Nat := [0, 0, 0, 0, 12, 28, 0, 0, 192, 448, 0, 1024, 0, 7168, 15360, 31744, 65472, 131068, 262143, 524287]
theorem skewbaldref01_ends.tab15 : rtab .any (opsOf Tryd.f77 15) = skewbaldref01_ends.T15 := by kernel_rfl
theorem skewbaldref01_ends.bits15 : waitsOk skewbaldref01_ends.T15.2 skewbaldref01_ends.B15 = true := by kernel_rfl
set_option maxHeartbeats 8000000 in
set_option maxRecDepth 100000 in
theorem skewbaldref01_ends.calls (k : Nat) (A0_0 : Option Addr) (c0_0 : Nat) (l0_0 : List (S48)) (A0_1 : Option Addr) (c0_1 : Nat) (l0_1 : List (S50)) (a1 : Int) (r : List Int) (w : World) (hr0_0 : Kd.C k48 w A0_0 l0_0.length l0_0) (hc0_0 : l0_0.length ≤ c0_0) (hr0_1 : Kd.C k50 w A0_1 l0_1.length l0_1) (hc0_1 : l0_1.length ≤ c0_1) (h : skewbaldref01_ends.f k l0_0 l0_1 a1 = some r) :
  Calls Tryd.prog 77 #[.agg #[.slice A0_0 l0_0.length c0_0, .slice A0_1 l0_1.length c0_1], .int .i64 a1] w fun e w' => ∃ v0_ : Value, e = .returned (v0_) ∧ Kd.R (Kd.int .i64) 3 w' w.heap.size (fun _ => True) v0_ r ∧ Below w.heap.size w w' := by
 have hu25 := Tryd.underlying25; have HR0_0 := Aside0.mk hr0_0; have HC0_0 := Aside0.mk hc0_0; clear hr0_0 hc0_0; have HR0_1 := Aside0.mk hr0_1; have HC0_1 := Aside0.mk hc0_1; clear hr0_1 hc0_1; have HB := Aside0.mk (Below.refl w.heap.size w)
 have H : (if 0 ≤ (shl .i64 1 (l0_1.length : Int)) then (if (shl .i64 1 (l0_1.length : Int) : Int).toNat ≤ 35184372088832 then (skewbaldref01_ends.l0 k a1 (List.replicate (shl .i64 1 (l0_1.length : Int) : Int).toNat 0) 1 l0_0 l0_1) else (none)) else (none)) = some r := h
 clear h
 obtain ⟨ji3, hji3⟩ : ∃ j_ : Int, (shl .i64 1 (l0_1.length : Int)) = j_ := ⟨_, rfl⟩
 replace H : (if 0 ≤ (ji3) then (if (ji3 : Int).toNat ≤ 35184372088832 then (skewbaldref01_ends.l0 k a1 (List.replicate (ji3 : Int).toNat 0) 1 l0_0 l0_1) else (none)) else (none)) = some r := by first | (rw [hji3] at H; exact H) | (simp only [hji3] at H ⊢; exact H)
 have hji3_ : (IntKind.i64.wrap (1 * 2 ^ min (l0_1.length : Int).toNat 64)) = ji3 := hji3
 have hji3z : (l0_1.length : Int) ≤ 64 → (IntKind.i64.wrap (1 * 2 ^ (l0_1.length : Int).toNat)) = ji3 := shl_small hji3
 have hji3p : (IntKind.i64.wrap (1 * 2 ^ min l0_1.length 64)) = ji3 := hji3_
 have hji3q : (l0_1.length : Int) ≤ 64 → (IntKind.i64.wrap (1 * 2 ^ l0_1.length)) = ji3 := hji3z
 have hji3r : (IntKind.i64.wrap (2 ^ min l0_1.length 64)) = ji3 := by have h_ := hji3p; rw [Int.one_mul] at h_; exact h_
 have hji3s : (l0_1.length : Int) ≤ 64 → (IntKind.i64.wrap (2 ^ l0_1.length)) = ji3 := fun hle_ => by have h_ := hji3q hle_; rw [Int.one_mul] at h_; exact h_
 have hji3u : (IntKind.i64.wrap (2 ^ min (l0_1.length : Int).toNat 64)) = ji3 := by have h_ := hji3_; rw [Int.one_mul] at h_; exact h_
 have hji3v : (l0_1.length : Int) ≤ 64 → (IntKind.i64.wrap (2 ^ (l0_1.length : Int).toNat)) = ji3 := fun hle_ => by have h_ := hji3z hle_; rw [Int.one_mul] at h_; exact h_
 have hji3y : (wrap64 (1 * 2 ^ min (l0_1.length : Int).toNat 64)) = ji3 := (i64_w _).symm.trans hji3_
 have hji3x : (l0_1.length : Int) ≤ 64 → (wrap64 (1 * 2 ^ (l0_1.length : Int).toNat)) = ji3 := fun h_ => (i64_w _).symm.trans (hji3z h_)
 have hji3A : (wrap64 (2 ^ min (l0_1.length : Int).toNat 64)) = ji3 := (i64_w _).symm.trans hji3u
 have hji3B : (l0_1.length : Int) ≤ 64 → (wrap64 (2 ^ (l0_1.length : Int).toNat)) = ji3 := fun h_ => (i64_w _).symm.trans (hji3v h_)
 have hji3C : (wrap64 (2 ^ min l0_1.length 64)) = ji3 := (i64_w _).symm.trans hji3r
 have hji3D : (l0_1.length : Int) ≤ 64 → (wrap64 (2 ^ l0_1.length)) = ji3 := fun h_ => (i64_w _).symm.trans (hji3s h_)
 by_cases c4 : 0 ≤ (ji3)
 ·rw [if_pos c4] at H; have c4b0 := eq_true c4; have c4b1 := decide_eq_true c4; clear c4
  by_cases c5 : (ji3 : Int).toNat ≤ 35184372088832
  ·rw [if_pos c5] at H; have c5b0 := eq_true c5; have c5b1 := decide_eq_true c5; clear c5
   obtain ⟨y227, hy227⟩ : ∃ y_ : List Int, y_ = (List.replicate (ji3 : Int).toNat 0) := ⟨_, rfl⟩
   replace H : (skewbaldref01_ends.l0 k a1 y227 1 l0_0 l0_1) = some r := tr H hy227
   have Ny227 := Aside0.mk hy227; clear hy227; have H' := Aside0.mk H; clear H
   go_enter Tryd.func77, Tryd.ntmps77
   go_wp2_with (first | (refine bx 2 #[.slice A0_0 l0_0.length c0_0, .slice A0_1 l0_1.length c0_1] 25 ?_; intro gb226 hg w6 hbox hb; have BK226 := Aside0.mk hbox; have GW226 := gw hg HB; have GE226 := gw hg HB; replace HB := hs HB hb; clear hb hbox hg; obtain ⟨hcz7_0, hcz7_1, hfz7_0, hfz7_1⟩ := b2 (w := w6) BK226) | ((with_reducible refine gate_dst (N := 15) rfl ?_); refine Kd.R_make (Kd.int .i64) _ 3 rfl (N := 15) rfl 31 _ _ rfl ji3 rfl rfl Tryd.underlying31 (.int .i64 0) 8 info3 rfl (by decide) (by omega) 0 (ok := fun _ => True) (okp := fun _ => True) rfl (fun _ hk => hk) trivial od (Nat.le_trans (Nat.mul_le_mul_right _ (od : ji3.toNat ≤ 35184372088832)) (by omega)) (Below.refl _ _) (Nat.le_refl _) ?_; intro v228 w8 ho9 hb hg_ hnew_; clear hg_ hnew_; (first | rw [← Ny227.out] at ho9 | (simp only [Int.reduceToNat] at ho9; rw [← Ny227.out] at ho9)); have HO229 := Aside0.mk (Kd.R_lower ho9 (below_size bl)); replace BK226 := nb BK226 hb; replace HB := hs HB hb; clear hb ho9))
   go_loopg [6] k (fun kq v6 w' => ∃ (x5_1 : List Int) (x6_1 : Int), v6 = .int .i64 x6_1 ∧ Aside0 (skewbaldref01_ends.l0 kq a1 x5_1 x6_1 l0_0 l0_1 = some r) ∧ Aside0 (kq ≤ k) ∧ Aside0 (Kd.R (Kd.int .i64) 3 w' w.heap.size (fun _ => True) v228 x5_1) ∧ Aside0 (w'.heap[gb226]? = some (.cells #[(.slice A0_0 l0_0.length c0_0), (.slice A0_1 l0_1.length c0_1)] 25 (0, 0))) ∧ Aside0 (Below w.heap.size w w'))
   case atStart => exact ⟨(y227), (1), sm, H', ⟨Nat.le_refl _⟩, ⟨bR HO229⟩, ⟨bk⟩, ⟨bl⟩⟩
   case round =>
    clear H'; (try clear p2); (try clear c4); (try clear c4b0); (try clear c4b1); (try clear c5); (try clear c5b0); (try clear c5b1); (try clear p6); (try clear c7); (try clear hcz7_0); (try clear hcz7_1); (try clear hfz7_0); (try clear hfz7_1); obtain ⟨x5_1, x6_1, rfl, HA, HK1, HO_5, BK226, HB⟩ := hrel
    cases gk with
    | zero => exact absurd HA.out (by simp [skewbaldref01_ends.l0])
    | succ k1 =>
     have H := HA.out; clear HA
     simp only [skewbaldref01_ends.l0] at H
     by_cases c10 : x6_1 < (x5_1.length : Int)
     ·rw [if_pos c10] at H; have c10b0 := decide_eq_true c10; clear c10
      by_cases c11 : 0 ≤ x6_1
      ·rw [if_pos c11] at H; have c11b0 := decide_eq_true c11; clear c11
       obtain ⟨y230, hy230⟩ : ∃ y_ : List Int, y_ = (x5_1.set (x6_1 : Int).toNat 99) := ⟨_, rfl⟩
       replace H : (skewbaldref01_ends.l1 k1 a1 y230 x6_1 0 l0_0 l0_1) = some r := tr H hy230
       have Ny230 := Aside0.mk hy230; clear hy230; have H' := Aside0.mk H; clear H; obtain ⟨Ao13, co13, eo13⟩ := Kd.R_slice HO_5.out; subst eo13
       have p12 : 0 ≤ (x6_1 : Int) := od
       have q12 : (x6_1 : Int) < ((x5_1.length : Int) : Int) := od
       obtain ⟨go12, co12, eo12, gb12, gl12, cl12, HG12⟩ := Kd.R_form HO_5.out (by omega)
       (first | cases eo12 | (injection eo12 with ea_ en_ ec_; (first | subst ea_ | (injection ea_ with ea_; subst ea_)); subst ec_; clear en_))
       have GB12 := Aside0.mk gb12; have GG12 := Aside0.mk HG12; clear gb12 gl12 HG12; obtain ⟨hx12_0, hf12_0⟩ := Kd.R_celln 0 HO_5.out (x6_1 : Int) p12 q12; replace p12 := eq_true p12; replace q12 := eq_true q12; have HP14 := Kd.R_putg HO_5.out (x6_1 : Int) 99
       go_wp2_with (first | ((with_reducible refine gate_store (t := 3) (p := 24) rfl ?_); refine store_event (t := 3) (p := 24) (v := ?vo_w15) (w1 := (wr.setCell ⟨go12, (x6_1 : Int).toNat, none⟩ (.int .i64 99))) ?hg ?ho ?hn ?hr ?_; (case ho => rfl); (case hg => rfl); (case hn => rfl); (case hr => first | (go_simp; done) | (go_simp; rfl)); intro w15 hw; have hg : wr.grownBy w15 (some go12) := (by rw [hw]; exact HP14.2); have hp_ : Kd.R (Kd.int .i64) 3 w15 w.heap.size (fun _ => True) (.slice (some ⟨go12, 0, none⟩) x5_1.length co13) y230 := (by rw [hw, Ny230.out]; exact HP14.1); clear HP14; replace BK226 := Aside0.mk (blk_grown (g := gb226) (o := .cells #[.slice A0_0 l0_0.length c0_0, .slice A0_1 l0_1.length c0_1] 25 (0, 0)) bk hg (Kd.R_ne HO_5.out BK226.out (by decide))); replace HO_5 := Aside0.mk hp_; replace HB := Aside0.mk ((by rw [hw]; exact below_set (HB.out) GB12.out : Below w.heap.size w w15)); clear hg hw hp_))
       go_loopg [7] k1 (fun kq v7 w' => ∃ (x5_2 : List Int) (x7_2 : Int), v7 = .int .i64 x7_2 ∧ Aside0 (skewbaldref01_ends.l1 kq a1 x5_2 x6_1 x7_2 l0_0 l0_1 = some r) ∧ Aside0 (kq ≤ k1) ∧ Aside0 (Kd.R (Kd.int .i64) 3 w' w.heap.size (fun _ => True) (.slice (some ⟨go12, 0, none⟩) x5_1.length co13) x5_2) ∧ Aside0 (w'.heap[gb226]? = some (.cells #[(.slice A0_0 l0_0.length c0_0), (.slice A0_1 l0_1.length c0_1)] 25 (0, 0))) ∧ Aside0 (Below w.heap.size w w'))
       case atStart => exact ⟨(y230), (0), sm, H', ⟨Nat.le_refl _⟩, ⟨bR HO_5⟩, ⟨bk⟩, ⟨bl⟩⟩
       case round =>
        clear H'; (try clear c1); (try clear p1); (try clear q1); (try clear hx1); (try clear p2); (try clear c4); (try clear c4b0); (try clear c4b1); (try clear c5); (try clear c5b0); (try clear c5b1); (try clear p6); (try clear c7); (try clear c10); (try clear c10b0); (try clear c11); (try clear c11b0); (try clear p12); (try clear q12); (try clear hx12); (try clear hf12); (try clear hcz7_0); (try clear hcz7_1); (try clear hfz7_0); (try clear hfz7_1); (try clear hx12_0); obtain ⟨x5_2, x7_2, rfl, HA, HK2, HO_5, BK226, HB⟩ := hrel; have hl5_2 := (Kd.R_reads' HO_5.out).1; rw [hl5_2] at HO_5
        (try simp only [hl5_2])
        (try simp only [hl5_2] at BK226)
        cases gk with
        | zero => exact absurd HA.out (by simp [skewbaldref01_ends.l1])
        | succ k2 =>
         have H := HA.out; clear HA
         simp only [skewbaldref01_ends.l1] at H
         by_cases c16 : x7_2 < (l0_1.length : Int)
         ·rw [if_pos c16] at H; have c16b0 := decide_eq_true c16; clear c16; obtain ⟨t231, A17, H⟩ := ob H
          by_cases c18 : t231 = true
          ·subst c18; rw [if_pos rfl] at H
           by_cases c19 : 0 ≤ x7_2
           ·rw [if_pos c19] at H; have c19b0 := eq_true c19; have c19b1 := decide_eq_true c19; clear c19
            obtain ⟨ji20, hji20⟩ : ∃ j_ : Int, (shl .i64 1 x7_2) = j_ := ⟨_, rfl⟩
            replace H : (if 0 ≤ (wrap64 (x6_1 - (ji20))) then (if (wrap64 (x6_1 - (ji20))) < (x5_2.length : Int) then ((skewbaldref01_spots.f k2 l0_0 l0_1 a1 x7_2).bind fun t233 => (skewbaldref01_ends.l2 k2 a1 x5_2 x6_1 x7_2 (rd x5_2 (wrap64 (x6_1 - (ji20)))) t233 0 l0_0 l0_1)) else (none)) else (none)) = some r := by first | (rw [hji20] at H; exact H) | (simp only [hji20] at H ⊢; exact H)
            (try rw [hji20] at A17)
            have hji20_ : (IntKind.i64.wrap (1 * 2 ^ min x7_2.toNat 64)) = ji20 := hji20
            have hji20z : x7_2 ≤ 64 → (IntKind.i64.wrap (1 * 2 ^ x7_2.toNat)) = ji20 := shl_small hji20
            have hji20u : (IntKind.i64.wrap (2 ^ min x7_2.toNat 64)) = ji20 := by have h_ := hji20_; rw [Int.one_mul] at h_; exact h_
            have hji20v : x7_2 ≤ 64 → (IntKind.i64.wrap (2 ^ x7_2.toNat)) = ji20 := fun hle_ => by have h_ := hji20z hle_; rw [Int.one_mul] at h_; exact h_
            have hji20y : (wrap64 (1 * 2 ^ min x7_2.toNat 64)) = ji20 := (i64_w _).symm.trans hji20_
            have hji20x : x7_2 ≤ 64 → (wrap64 (1 * 2 ^ x7_2.toNat)) = ji20 := fun h_ => (i64_w _).symm.trans (hji20z h_)
            have hji20A : (wrap64 (2 ^ min x7_2.toNat 64)) = ji20 := (i64_w _).symm.trans hji20u
            have hji20B : x7_2 ≤ 64 → (wrap64 (2 ^ x7_2.toNat)) = ji20 := fun h_ => (i64_w _).symm.trans (hji20v h_)
            obtain ⟨ji21, hji21⟩ : ∃ j_ : Int, (wrap64 (x6_1 - (ji20))) = j_ := ⟨_, rfl⟩
            replace H : (if 0 ≤ (ji21) then (if (ji21) < (x5_2.length : Int) then ((skewbaldref01_spots.f k2 l0_0 l0_1 a1 x7_2).bind fun t233 => (skewbaldref01_ends.l2 k2 a1 x5_2 x6_1 x7_2 (rd x5_2 (ji21)) t233 0 l0_0 l0_1)) else (none)) else (none)) = some r := by first | (rw [hji21] at H; exact H) | (simp only [hji21] at H ⊢; exact H)
            (try rw [hji21] at A17)
            have hji21w : (IntKind.i64.wrap (x6_1 - (ji20))) = ji21 := (i64_w _).trans hji21
            by_cases c22 : 0 ≤ (ji21)
            ·rw [if_pos c22] at H; have c22b0 := decide_eq_true c22; clear c22
             by_cases c23 : (ji21) < (x5_2.length : Int)
             ·rw [if_pos c23] at H; have c23b0 := decide_eq_true c23; clear c23; obtain ⟨t233, A24, H⟩ := ob H; have H' := Aside0.mk H; clear H; obtain ⟨hcz25_0, hcz25_1, hfz25_0, hfz25_1⟩ := b2 (w := wr) BK226
              try go_wp2_with (first | ((with_reducible refine gate_callee (f := 95) rfl ?_); refine gl (some 34) Tryd.func95 #[.int .i64 x6_1, .int .i64 x7_2] ?_; (with_reducible refine (skewbaldref00_Of.calls x6_1 x7_2 true _ A17.out).mono ?_); rintro e w' ⟨rfl, ⟨nd, rfl⟩⟩; refine ⟨_, rfl, ?_⟩))
              (try (rw [drewN_self wr]; generalize hq_ : World.drewN wr _ = wr; have n0_ : Aside0 (Kd.R (Kd.int .i64) 3 wr w.heap.size (fun _ => True) (.slice (some ⟨go12, 0, none⟩) x5_2.length co13) x5_2) := ⟨by rw [← hq_]; exact (bR HO_5)⟩; have n1_ : Aside0 (wr.heap[gb226]? = some (.cells #[.slice A0_0 l0_0.length c0_0, .slice A0_1 l0_1.length c0_1] 25 (0, 0))) := ⟨by rw [← hq_]; exact bk⟩; have n2_ : Aside0 (Below w.heap.size w wr) := ⟨by rw [← hq_]; exact bl⟩; clear HO_5 BK226 HB hq_; have HO_5 := n0_; have BK226 := n1_; have HB := n2_; clear n0_ n1_ n2_))
              replace HO_5 := Aside0.mk (Kd.R_drew HO_5.out); replace BK226 := Aside0.mk (blk_drew BK226.out); replace HB := Aside0.mk (below_drew1 HB.out)
              have p232 : 0 ≤ ((ji21) : Int) := od
              have q232 : (ji21) < (x5_2.length : Int) := od
              obtain ⟨ad232, e232, hx232_0⟩ := Kd.at_int (Kd.R_reads' HO_5.out).2.2 (ji21) p232 q232
              obtain rfl : (⟨go12, 0, none⟩ : Addr) = ad232 := (by injection e232)
              (first | simp only [add_plain] at hx232_0 | simp only [add_at] at hx232_0 | simp only [Addr.add, Nat.zero_add] at hx232_0 | skip)
              replace p232 := eq_true p232; replace q232 := eq_true q232
              refine start_ (n := 13) (S := fun w' => w'.cell? ⟨gb226, 0, none⟩ = some (.slice A0_0 l0_0.length c0_0) ∧ w'.cell? ⟨gb226, 1, none⟩ = some (.slice A0_1 l0_1.length c0_1) ∧ w'.cell? ⟨go12, ((ji21)).toNat, none⟩ = some (.int .i64 (rd x5_2 (ji21)))) (ds := []) #[false, false, false, false, false, false, false, false, false, false, false, false, false] (by kernel_rfl) rfl rfl ⟨bq BK226 0, bq BK226 1, hx232_0⟩ (fun hHeld => ?_); refine with_tabW skewbaldref01_ends.tab10 skewbaldref01_ends.bits10 (fun HT_ HW_ => ?_)
              generalize wr.drew = w26 at HO_5 BK226 HB hx232_0 hHeld ⊢
              refine pu_ (i := 0) (N := some 36) (qa_ 13 1) ?_
              refine pu_ (i := 1) (N := some 37) (qa_ 13 3) ?_
              refine pu_ (i := 2) (N := some 38) (qa_ 13 7) ?_
              refine pu_ (i := 3) (N := some 39) (qa_ 13 15) ?_
              refine pu_ (i := 4) (N := some 40) (qa_ 13 31) ?_
              refine pu_ (i := 5) (N := some 41) (qa_ 13 63) ?_
              refine pu_ (i := 8) (N := some 44) (qa_ 13 319) ?_
              refine pu_ (i := 9) (N := some 45) (qa_ 13 831) ?_
              refine tk_ (i := 6) (N := some 42) (qa_ 13 895) hHeld ?_
              refine tk_ (i := 7) (N := some 43) (qa_ 13 1023) hHeld ?_
              refine on_ (i := 10) (N := some 46) (qa_ 13 2047) (fun K hK => ?_)
              refine goes_ Tryd.func75 (by kernel_rfl) rfl #[.agg #[.slice A0_0 l0_0.length c0_0, .slice A0_1 l0_1.length c0_1], .int .i64 a1, .int .i64 x7_2] (by rfl) rfl rfl (by (try simp only [List.map_toArray, List.map_cons, List.map_nil]); first | done | rfl | (simp only [List.length_drop, List.length_take]; rfl)) ?_
              with_reducible refine (skewbaldref01_spots.calls k2 _ _ l0_0 _ _ l0_1 a1 x7_2 t233 _ ?side1 ?side2 ?side3 ?side4 A24.out).mono ?_
              (case side1 => exact cl)
              (case side2 => exact HC0_0.out)
              (case side3 => exact cl)
              (case side4 => exact HC0_1.out)
              rintro e w27 ⟨v234, rfl, ho0, hb⟩
              have HS2_ := (hb.cell (World.block_lt_of_cell? _ _ (hHeld.2.2))).trans (hHeld.2.2)
              refine ⟨_, rfl, ?_⟩
              have HO235 := Aside0.mk (Kd.R_lower (Kd.R_new' ho0 (Kd.R_lt (bR HO_5))) (below_size bl)); replace HO_5 := Aside0.mk (Kd.R_elder' (bR HO_5) (Kd.R_base ho0) hb); replace BK226 := nb BK226 hb; replace HB := hs HB hb; (try clear hb); (try clear hb2); (try clear hk); (try clear hi); (try clear ho0)
              refine hK.out _ _ ⟨bq BK226 0, bq BK226 1, HS2_⟩ (fun hHeld => ?_)
              clear hK K
              refine nm_ (some 46) ?_
              refine pu_ (i := 11) (N := some 8) (qa_ 13 4095) ?_
              refine pu_ (i := 12) (N := some 9) (qa_ 13 8191) ?_
              refine done_ (done_of HT_.out (by kernel_rfl)) ?_
              try go_wp2
              go_loopg [10] k2 (fun kq v10 w' => ∃ (x5_3 : List Int) (x10_3 : Int), v10 = .int .i64 x10_3 ∧ Aside0 (skewbaldref01_ends.l2 kq a1 x5_3 x6_1 x7_2 (rd x5_2 (ji21)) t233 x10_3 l0_0 l0_1 = some r) ∧ Aside0 (kq ≤ k2) ∧ Aside0 (Kd.R (Kd.int .i64) 3 w' w.heap.size (fun k_ => some k_ ≠ (v234 : Value).ownBlock) (.slice (some ⟨go12, 0, none⟩) x5_2.length co13) x5_3) ∧ Aside0 (Kd.R (Kd.int .i64) 3 w' w.heap.size (fun k_ => some k_ ≠ ((.slice (some ⟨go12, 0, none⟩) x5_2.length co13) : Value).ownBlock) v234 t233) ∧ Aside0 (w'.heap[gb226]? = some (.cells #[(.slice A0_0 l0_0.length c0_0), (.slice A0_1 l0_1.length c0_1)] 25 (0, 0))) ∧ Aside0 (Below w.heap.size w w'))
              case atStart => exact ⟨(x5_2), (0), sm, H', ⟨Nat.le_refl _⟩, ⟨by (try simp only [hl5_2]); (with_reducible repeat (first | apply Kd.R_alloc | apply Kd.R_drewN | apply Kd.R_drew)); exact Kd.R_mono HO_5.out (fun _ hk => hk.2)⟩, ⟨by (try simp only [hl5_2]); (with_reducible repeat (first | apply Kd.R_alloc | apply Kd.R_drewN | apply Kd.R_drew)); exact Kd.R_mono HO235.out (fun _ hk => hk.2)⟩, ⟨by (try simp only [hl5_2]); (with_reducible repeat (first | refine blk_drewN ?_ _ | refine blk_drew ?_ | refine blk_alloc ?_ _)); exact BK226.out⟩, ⟨bl⟩⟩
              case round =>
               clear H'; (try clear c1); (try clear p1); (try clear q1); (try clear hx1); (try clear c2); (try clear p2); (try clear q2); (try clear hx2); (try clear c4); (try clear c4b0); (try clear c4b1); (try clear c5); (try clear c5b0); (try clear c5b1); (try clear p6); (try clear c7); (try clear c9); (try clear c10); (try clear c10b0); (try clear c11); (try clear c11b0); (try clear p12); (try clear q12); (try clear hx12); (try clear hf12); (try clear c16); (try clear c16b0); (try clear c18); (try clear c19); (try clear c19b0); (try clear c19b1); (try clear c22); (try clear c22b0); (try clear c23); (try clear c23b0); (try clear p23); (try clear q23); (try clear hx23); (try clear hcz25_0); (try clear hcz25_1); (try clear hcz7_0); (try clear hcz7_1); (try clear hfz25_0); (try clear hfz25_1); (try clear hfz7_0); (try clear hfz7_1); (try clear hx12_0); (try clear hx232_0); (try clear p232); (try clear q232)
               obtain ⟨x5_3, x10_3, rfl, HA, HK3, HO_5, HO_9, BK226, HB⟩ := hrel; have hl5_3 := (Kd.R_reads' HO_5.out).1; rw [hl5_3] at HO_5
               (try simp only [hl5_3])
               (try simp only [hl5_3] at BK226)
               (try simp only [hl5_3] at HO_9)
               cases gk with
               | zero => exact absurd HA.out (by simp [skewbaldref01_ends.l2])
               | succ k3 =>
                have H := HA.out; clear HA
                simp only [skewbaldref01_ends.l2] at H
                by_cases c28 : x10_3 < (t233.length : Int)
                ·rw [if_pos c28] at H; have c28b0 := decide_eq_true c28; clear c28
                 by_cases c29 : 0 ≤ x10_3
                 ·rw [if_pos c29] at H; have c29b0 := decide_eq_true c29; clear c29
                  by_cases c30 : (rd t233 x10_3) ≥ (rd x5_2 (ji21))
                  ·rw [if_pos c30] at H; have c30b0 := decide_eq_true c30; clear c30
                   by_cases c31 : 0 ≤ x6_1
                   ·rw [if_pos c31] at H; have c31b0 := decide_eq_true c31; clear c31
                    by_cases c32 : x6_1 < (x5_3.length : Int)
                    ·rw [if_pos c32] at H; have c32b0 := decide_eq_true c32; clear c32
                     by_cases c33 : 0 ≤ x7_2
                     ·rw [if_pos c33] at H; have c33b0 := decide_eq_true c33; clear c33
                      by_cases c34 : x7_2 < (l0_1.length : Int)
                      ·rw [if_pos c34] at H; have c34b0 := decide_eq_true c34; clear c34
                       obtain ⟨ji35, hji35⟩ : ∃ j_ : Int, (mn (rd x5_3 x6_1) (wrap64 ((rd t233 x10_3) + ((rd_T50 l0_1 x7_2).f0)))) = j_ := ⟨_, rfl⟩
                       replace H : (skewbaldref01_ends.l2 k3 a1 (x5_3.set (x6_1 : Int).toNat (ji35)) x6_1 x7_2 (rd x5_2 (ji21)) t233 (wrap64 (x10_3 + 1)) l0_0 l0_1) = some r := by first | (rw [hji35] at H; exact H) | (simp only [hji35] at H ⊢; exact H)
                       have hji35_ : (if (wrap64 ((rd t233 x10_3) + ((rd_T50 l0_1 x7_2).f0))) < (rd x5_3 x6_1) then (wrap64 ((rd t233 x10_3) + ((rd_T50 l0_1 x7_2).f0))) else (rd x5_3 x6_1)) = ji35 := hji35
                       obtain ⟨y240, hy240⟩ : ∃ y_ : List Int, y_ = (x5_3.set (x6_1 : Int).toNat (ji35)) := ⟨_, rfl⟩
                       replace H : (skewbaldref01_ends.l2 k3 a1 y240 x6_1 x7_2 (rd x5_2 (ji21)) t233 (wrap64 (x10_3 + 1)) l0_0 l0_1) = some r := tr H hy240
                       have Ny240 := Aside0.mk hy240; clear hy240; have H' := Aside0.mk H; clear H; obtain ⟨Ao37, co37, eo37⟩ := Kd.R_slice HO_9.out; subst eo37
                       have p236 : 0 ≤ (x10_3 : Int) := od
                       have q236 : x10_3 < (t233.length : Int) := od
                       obtain ⟨ad236, e236, hx236_0⟩ := Kd.at_int (Kd.R_reads' HO_9.out).2.2 x10_3 p236 q236
                       cases e236
                       replace p236 := eq_true p236; replace q236 := eq_true q236
                       try go_wp2
                       replace HO_5 := Aside0.mk (Kd.R_drew HO_5.out); replace HO_9 := Aside0.mk (Kd.R_drew HO_9.out); replace BK226 := Aside0.mk (blk_drew BK226.out); replace HB := Aside0.mk (below_drew1 HB.out)
                       have p237 : 0 ≤ (x6_1 : Int) := od
                       have q237 : x6_1 < (x5_3.length : Int) := od
                       obtain ⟨ad237, e237, hx237_0⟩ := Kd.at_int (Kd.R_reads' HO_5.out).2.2 x6_1 p237 q237
                       obtain rfl : (⟨go12, 0, none⟩ : Addr) = ad237 := (by injection e237)
                       (first | simp only [add_plain] at hx237_0 | simp only [add_at] at hx237_0 | simp only [Addr.add, Nat.zero_add] at hx237_0 | skip)
                       replace p237 := eq_true p237; replace q237 := eq_true q237
                       have p238 : 0 ≤ (x10_3 : Int) := od
                       have q238 : x10_3 < (t233.length : Int) := od
                       obtain ⟨ad238, e238, hx238_0⟩ := Kd.at_int (Kd.R_reads' HO_9.out).2.2 x10_3 p238 q238
                       obtain rfl : ad236 = ad238 := (by injection e238)
                       replace p238 := eq_true p238; replace q238 := eq_true q238
                       have p239 : 0 ≤ (x7_2 : Int) := od
                       have q239 : x7_2 < (l0_1.length : Int) := od
                       obtain ⟨ad239, A239_1, c239_1, e239, hx239_0, hx239_1, hx239_2, hl239_1, hi239_1⟩ := at_T50 HR0_1.out x7_2 p239 q239; have hw239_2 := hx239_2; have hw239_1 := hx239_1; have hw239_0 := hx239_0
                       cases e239
                       replace hx239_0 := cm HB hx239_0; replace hx239_1 := cm HB hx239_1; replace hx239_2 := cm HB hx239_2; have HR239_1 := Aside0.mk hi239_1; have HC239_1 := Aside0.mk hl239_1; clear hi239_1 hl239_1; replace p239 := eq_true p239; replace q239 := eq_true q239
                       have p36 : 0 ≤ (x6_1 : Int) := od
                       have q36 : (x6_1 : Int) < ((x5_3.length : Int) : Int) := od
                       obtain ⟨hx36_0, hf36_0⟩ := Kd.R_celln 0 HO_5.out (x6_1 : Int) p36 q36; replace p36 := eq_true p36; replace q36 := eq_true q36; have HP39 := Kd.R_putn HO_5.out (x6_1 : Int) ji35; rw [← Ny240.out] at HP39; have HQ39 := Aside0.mk HP39; clear HP39
                       refine start_ (n := 20) (S := fun w' => w'.cell? ⟨gb226, 0, none⟩ = some (.slice A0_0 l0_0.length c0_0) ∧ w'.cell? ⟨gb226, 1, none⟩ = some (.slice (some ad239) l0_1.length c0_1) ∧ w'.cell? ⟨go12, (x6_1).toNat, none⟩ = some (.int .i64 (rd x5_3 x6_1)) ∧ w'.cell? (ad236.add (x10_3).toNat) = some (.int .i64 (rd t233 x10_3)) ∧ w'.cell? (ad239.add ((x7_2).toNat * 3)) = some (.int .i64 ((rd_T50 l0_1 x7_2).f0)) ∧ w'.cell? ⟨(ad239.add ((x7_2).toNat * 3)).block, (ad239.add ((x7_2).toNat * 3)).off + 1, none⟩ = some (.slice A239_1 ((rd_T50 l0_1 x7_2).f1).length c239_1) ∧ w'.cell? ⟨(ad239.add ((x7_2).toNat * 3)).block, (ad239.add ((x7_2).toNat * 3)).off + 2, none⟩ = some (.bool ((rd_T50 l0_1 x7_2).f2))) (ds := [19]) #[false, false, false, false, false, false, false, false, false, false, false, false, false, false, false, false, false, false, false, false] (by kernel_rfl) rfl rfl ⟨bq BK226 0, bq BK226 1, hx237_0, hx238_0, (cm HB hw239_0 :), (cm HB hw239_1 :), (cm HB hw239_2 :)⟩ (fun hHeld => ?_); refine with_tabW skewbaldref01_ends.tab15 skewbaldref01_ends.bits15 (fun HT_ HW_ => ?_)
                       generalize wr.drew = w38 at HO_5 HO_9 BK226 HB HQ39 HR239_1 hf36_0 hx237_0 hx238_0 hx239_0 hx239_1 hx239_2 hx36_0 hHeld ⊢
                       refine pu_ (i := 0) (N := some 59) (qa_ 20 1) ?_
                       refine pu_ (i := 1) (N := some 60) (qa_ 20 3) ?_
                       refine pu_ (i := 2) (N := some 61) (qa_ 20 7) ?_
                       refine pu_ (i := 3) (N := some 62) (qa_ 20 15) ?_
                       refine pu_ (i := 4) (N := some 63) (qa_ 20 31) ?_
                       refine pu_ (i := 6) (N := some 65) (qa_ 20 95) ?_
                       refine pu_ (i := 7) (N := some 66) (qa_ 20 223) ?_
                       refine pu_ (i := 8) (N := some 67) (qa_ 20 479) ?_
                       refine pu_ (i := 10) (N := some 69) (qa_ 20 1503) ?_
                       refine pu_ (i := 12) (N := some 71) (qa_ 20 5599) ?_
                       refine tk_ (i := 5) (N := some 64) (qa_ 20 5631) hHeld ?_
                       refine tk_ (i := 9) (N := some 68) (qa_ 20 6143) hHeld ?_
                       refine tk_ (i := 11) (N := some 70) (qa_ 20 8191) hHeld ?_
                       refine pu_ (i := 13) (N := some 72) (qa_ 20 16383) ?_
                       refine pu_ (i := 14) (N := some 73) (qa_ 20 32767) ?_
                       refine tk_ (i := 15) (N := some 74) (qa_ 20 65535) hHeld ?_
                       refine pu_ (i := 16) (N := some 75) (qa_ 20 131071) ?_
                       refine pu_ (i := 17) (N := some 76) (qa_ 20 262143) ?_
                       refine pu_ (i := 18) (N := some 77) (qa_ 20 524287) ?_
                       refine last_ (i := 19) (N := none) (qa_ 20 1048575) rfl rfl (one_of HT_.out (by kernel_rfl)) (by decide) (fun K hK => ?_)
                       refine skip_ (w1 := ?_) (by rfl) rfl ?_ ?_
                       rotate_left
                       ·go_simp
                        rfl
                       refine hK.out _ _ ?_
                       clear hK K
                       refine done_ (done_of HT_.out (by kernel_rfl)) ?_
                       try go_wp2
                       (try simp only [← hl5_3])
                       go_roundg k3
                       case measure => have := HK1.out; have := HK2.out; have := HK3.out; omega
                       case rel => exact ⟨(y240), (wrap64 (x10_3 + 1)), sm, H', ⟨by have := HK1.out; have := HK2.out; have := HK3.out; omega⟩, ⟨by (try simp only [hl5_2]); (try simp only [hl5_3]); (with_reducible repeat (first | apply Kd.R_alloc | apply Kd.R_drewN | apply Kd.R_drew)); exact HQ39.out⟩, ⟨by (try simp only [hl5_2]); (try simp only [hl5_3]); (with_reducible repeat (first | apply Kd.R_alloc | apply Kd.R_drewN | apply Kd.R_drew)); exact Kd.R_mono (Kd.R_far (p := ⟨go12, (x6_1 : Int).toNat, none⟩) (Kd.R_mono HO_9.out (fun k_ hk => (⟨hk, fun e_ => hk (by rw [e_]; rfl)⟩ : _ ∧ k_ ≠ go12))) (fun _ hk => hk.2) (.int .i64 ji35)) (fun _ hk => hk.1)⟩, ⟨by (try simp only [hl5_2]); (try simp only [hl5_3]); (with_reducible repeat (first | refine blk_drewN ?_ _ | refine blk_drew ?_ | refine blk_alloc ?_ _)); refine blk_far ?_ (by have h_ := Kd.R_ne HO_5.out BK226.out (by decide); intro e_; exact h_ (by rw [e_]; rfl)) _; (with_reducible repeat (first | refine blk_drewN ?_ _ | refine blk_drew ?_ | refine blk_alloc ?_ _)); exact BK226.out⟩, ⟨bl⟩⟩
                      ·rw [if_neg c34] at H
                       exact absurd H (by simp)
                     ·rw [if_neg c33] at H
                      exact absurd H (by simp)
                    ·rw [if_neg c32] at H
                     exact absurd H (by simp)
                   ·rw [if_neg c31] at H
                    exact absurd H (by simp)
                  ·rw [if_neg c30] at H
                   have c30b0 : decide ((rd x5_2 (ji21)) ≤ (rd t233 x10_3)) = false := decide_eq_false c30
                   clear c30; have H' := Aside0.mk H; clear H; obtain ⟨Ao40, co40, eo40⟩ := Kd.R_slice HO_9.out; subst eo40
                   have p236 : 0 ≤ (x10_3 : Int) := od
                   have q236 : x10_3 < (t233.length : Int) := od
                   obtain ⟨ad236, e236, hx236_0⟩ := Kd.at_int (Kd.R_reads' HO_9.out).2.2 x10_3 p236 q236
                   cases e236
                   replace p236 := eq_true p236; replace q236 := eq_true q236
                   go_wp2
                   (try simp only [← hl5_3])
                   go_roundg k3
                   case measure => have := HK1.out; have := HK2.out; have := HK3.out; omega
                   case rel => exact ⟨(x5_3), (wrap64 (x10_3 + 1)), sm, H', ⟨by have := HK1.out; have := HK2.out; have := HK3.out; omega⟩, ⟨by (try simp only [hl5_2]); (try simp only [hl5_3]); (with_reducible repeat (first | apply Kd.R_alloc | apply Kd.R_drewN | apply Kd.R_drew)); exact HO_5.out⟩, ⟨by (try simp only [hl5_2]); (try simp only [hl5_3]); (with_reducible repeat (first | apply Kd.R_alloc | apply Kd.R_drewN | apply Kd.R_drew)); exact HO_9.out⟩, ⟨by (try simp only [hl5_2]); (try simp only [hl5_3]); (with_reducible repeat (first | refine blk_drewN ?_ _ | refine blk_drew ?_ | refine blk_alloc ?_ _)); exact BK226.out⟩, ⟨bl⟩⟩
                 ·rw [if_neg c29] at H
                  exact absurd H (by simp)
                ·rw [if_neg c28] at H
                 have c28b0 : decide (x10_3 < (t233.length : Int)) = false := decide_eq_false c28
                 clear c28; have H' := Aside0.mk H; clear H; obtain ⟨Ao41, co41, eo41⟩ := Kd.R_slice HO_9.out; subst eo41
                 go_wp2
                 (try simp only [← hl5_2, ← hl5_3])
                 go_roundg k3
                 case measure => have := HK1.out; have := HK2.out; have := HK3.out; omega
                 case rel => exact ⟨(x5_3), (wrap64 (x7_2 + 1)), sm, H', ⟨by have := HK1.out; have := HK2.out; have := HK3.out; omega⟩, ⟨by (try simp only [hl5_2]); (try simp only [hl5_3]); (with_reducible repeat (first | apply Kd.R_alloc | apply Kd.R_drewN | apply Kd.R_drew)); exact Kd.R_mono HO_5.out (fun _ hk => trivial)⟩, ⟨by (try simp only [hl5_2]); (try simp only [hl5_3]); (with_reducible repeat (first | refine blk_drewN ?_ _ | refine blk_drew ?_ | refine blk_alloc ?_ _)); exact BK226.out⟩, ⟨bl⟩⟩
             ·rw [if_neg c23] at H
              exact absurd H (by simp)
            ·rw [if_neg c22] at H
             exact absurd H (by simp)
           ·rw [if_neg c19] at H
            exact absurd H (by simp)
          ·replace c18 := Bool.eq_false_iff.mpr c18; subst c18
           rw [if_neg (show ¬ (false = true) by decide)] at H
           have H' := Aside0.mk H; clear H; obtain ⟨hcz42_0, hcz42_1, hfz42_0, hfz42_1⟩ := b2 (w := wr) BK226
           go_wp2_with (first | ((with_reducible refine gate_callee (f := 95) rfl ?_); refine gl (some 34) Tryd.func95 #[.int .i64 x6_1, .int .i64 x7_2] ?_; (with_reducible refine (skewbaldref00_Of.calls x6_1 x7_2 false _ A17.out).mono ?_); rintro e w' ⟨rfl, ⟨nd, rfl⟩⟩; refine ⟨_, rfl, ?_⟩))
           (try simp only [← hl5_2])
           go_roundg k2
           case measure => have := HK1.out; have := HK2.out; omega
           case rel => exact ⟨(x5_2), (wrap64 (x7_2 + 1)), sm, H', ⟨lp HK1 HK2⟩, ⟨by (try simp only [hl5_2]); (with_reducible repeat (first | apply Kd.R_alloc | apply Kd.R_drewN | apply Kd.R_drew)); exact HO_5.out⟩, ⟨by (try simp only [hl5_2]); (with_reducible repeat (first | refine blk_drewN ?_ _ | refine blk_drew ?_ | refine blk_alloc ?_ _)); exact BK226.out⟩, ⟨bl⟩⟩
         ·rw [if_neg c16] at H
          have c16b0 : decide (x7_2 < (l0_1.length : Int)) = false := decide_eq_false c16
          clear c16; have H' := Aside0.mk H; clear H; obtain ⟨hcz43_0, hcz43_1, hfz43_0, hfz43_1⟩ := b2 (w := wr) BK226
          go_wp2
          (try simp only [← hl5_2])
          go_roundg k2
          case measure => have := HK1.out; have := HK2.out; omega
          case rel => exact ⟨(x5_2), (wrap64 (x6_1 + 1)), sm, H', ⟨lp HK1 HK2⟩, ⟨by (try simp only [hl5_2]); (with_reducible repeat (first | apply Kd.R_alloc | apply Kd.R_drewN | apply Kd.R_drew)); exact HO_5.out⟩, ⟨by (try simp only [hl5_2]); (with_reducible repeat (first | refine blk_drewN ?_ _ | refine blk_drew ?_ | refine blk_alloc ?_ _)); exact BK226.out⟩, ⟨bl⟩⟩
      ·rw [if_neg c11] at H
       exact absurd H (by simp)
     ·rw [if_neg c10] at H
      have c10b0 : decide (x6_1 < (x5_1.length : Int)) = false := decide_eq_false c10
      clear c10; obtain rfl := Option.some.inj H; obtain ⟨Ao44, co44, eo44⟩ := Kd.R_slice HO_5.out; subst eo44
      go_wp2
      go_ret
      exact ⟨_, by first | rfl | (simp [errW_none, errW_some] <;> rfl) | (simp only [← hji3]; first | rfl | (simp [errW_none, errW_some] <;> rfl)) | (simp [*, errW_none, errW_some] <;> rfl), by (with_reducible repeat (first | apply Kd.R_alloc | apply Kd.R_drewN | apply Kd.R_drew)); exact HO_5.out, bl⟩
  ·rw [if_neg c5] at H
   exact absurd H (by simp)
 ·rw [if_neg c4] at H
  exact absurd H (by simp)
def skewbaldref01_tables.l0 : Nat → List (List Int) → Int → List (S48) → List (S50) → Option ((List (List Int)))
 | 0, _, _, _, _ => none
 | k + 1, x3, x4, x242000, x242001 => if x4 < (x242000.length : Int) then ((skewbaldref01_ends.f k x242000 x242001 x4).bind fun t245 => (if x3.length < 5864062014805 then (skewbaldref01_tables.l0 k (x3 ++ [t245]) (wrap64 (x4 + 1)) x242000 x242001) else (none))) else (some x3)
def skewbaldref01_tables.f (k : Nat) (l0_0 : List (S48)) (l0_1 : List (S50)) : Option ((List (List Int))) := skewbaldref01_tables.l0 k (([] : List (List Int))) 0 l0_0 l0_1
set_option maxHeartbeats 8000000 in
set_option maxRecDepth 100000 in
theorem skewbaldref01_tables.calls (k : Nat) (A0_0 : Option Addr) (c0_0 : Nat) (l0_0 : List (S48)) (A0_1 : Option Addr) (c0_1 : Nat) (l0_1 : List (S50)) (r : List (List Int)) (w : World) (hr0_0 : Kd.C k48 w A0_0 l0_0.length l0_0) (hc0_0 : l0_0.length ≤ c0_0) (hr0_1 : Kd.C k50 w A0_1 l0_1.length l0_1) (hc0_1 : l0_1.length ≤ c0_1) (h : skewbaldref01_tables.f k l0_0 l0_1 = some r) :
  Calls Tryd.prog 87 #[.agg #[.slice A0_0 l0_0.length c0_0, .slice A0_1 l0_1.length c0_1]] w fun e w' => ∃ v0_ : Value, e = .returned (v0_) ∧ Kd.S (Kd.slice 3 (Kd.int .i64)) 31 w' w.heap.size (fun _ => True) v0_ r ∧ Below w.heap.size w w' := by
 have hu25 := Tryd.underlying25; have HR0_0 := Aside0.mk hr0_0; have HC0_0 := Aside0.mk hc0_0; clear hr0_0 hc0_0; have HR0_1 := Aside0.mk hr0_1; have HC0_1 := Aside0.mk hc0_1; clear hr0_1 hc0_1; have HB := Aside0.mk (Below.refl w.heap.size w)
 have H : (skewbaldref01_tables.l0 k (([] : List (List Int))) 0 l0_0 l0_1) = some r := h
 clear h
 obtain ⟨y242, hy242⟩ : ∃ y_ : List (List Int), y_ = (([] : List (List Int))) := ⟨_, rfl⟩
 replace H : (skewbaldref01_tables.l0 k y242 0 l0_0 l0_1) = some r := tr H hy242
 have Ny242 := Aside0.mk hy242; clear hy242; have H' := Aside0.mk H; clear H
 go_enter Tryd.func87, Tryd.ntmps87
 go_wp2_with (first | (refine bx 1 #[.slice A0_0 l0_0.length c0_0, .slice A0_1 l0_1.length c0_1] 25 ?_; intro gb241 hg w2 hbox hb; have BK241 := Aside0.mk hbox; have GW241 := gw hg HB; have GE241 := gw hg HB; replace HB := hs HB hb; clear hb hbox hg) | ((with_reducible refine gate_dst (N := 5) rfl ?_); refine Kd.S_lit (Kd.slice 3 (Kd.int .i64)) _ 31 ?hg (N := 5) ?hd (xs := ([] : List (List Int))) (inner := []) (ok := fun _ => True) (okp := fun _ => True) ?hr ?hp (fun _ hk => hk) trivial (Below.refl _ _) (Nat.le_refl _) (by simp) ?_; (case hd => rfl); (case hg => rfl); (case hr => first | (go_simp; done) | (go_simp; rfl)); (case hp => exact (Reps.none _ _)); intro v243 w3 ho4 hb hg_ hnew_; clear hg_ hnew_; (first | rw [← Ny242.out] at ho4 | (simp only [Int.reduceToNat] at ho4; rw [← Ny242.out] at ho4)); have HO244 := Aside0.mk (Kd.S_lower ho4 (below_size bl)); replace BK241 := nb BK241 hb; replace HB := hs HB hb; clear hb ho4))
 go_loopg [3, 4] k (fun kq v3 v4 w' => ∃ (x3_1 : List (List Int)) (x4_1 : Int), v4 = .int .i64 x4_1 ∧ Aside0 (skewbaldref01_tables.l0 kq x3_1 x4_1 l0_0 l0_1 = some r) ∧ Aside0 (kq ≤ k) ∧ Aside0 (Kd.S (Kd.slice 3 (Kd.int .i64)) 31 w' w.heap.size (fun _ => True) v3 x3_1) ∧ Aside0 (w'.heap[gb241]? = some (.cells #[(.slice A0_0 l0_0.length c0_0), (.slice A0_1 l0_1.length c0_1)] 25 (0, 0))) ∧ Aside0 (Below w.heap.size w w'))
 case atStart => exact ⟨(y242), (0), sm, H', ⟨Nat.le_refl _⟩, ⟨bS HO244⟩, ⟨bk⟩, ⟨bl⟩⟩
 case round =>
  clear H'; (try clear p2); obtain ⟨x3_1, x4_1, rfl, HA, HK1, HO_3, BK241, HB⟩ := hrel
  cases gk with
  | zero => exact absurd HA.out (by simp [skewbaldref01_tables.l0])
  | succ k1 =>
   have H := HA.out; clear HA
   simp only [skewbaldref01_tables.l0] at H
   by_cases c5 : x4_1 < (l0_0.length : Int)
   ·rw [if_pos c5] at H; have c5b0 := decide_eq_true c5; clear c5; obtain ⟨t245, A6, H⟩ := ob H
    by_cases c7 : x3_1.length < 5864062014805
    ·rw [if_pos c7] at H; have LMc7 := Aside0.mk c7; clear c7
     obtain ⟨y248, hy248⟩ : ∃ y_ : List (List Int), y_ = (x3_1 ++ [t245]) := ⟨_, rfl⟩
     replace H : (skewbaldref01_tables.l0 k1 y248 (wrap64 (x4_1 + 1)) l0_0 l0_1) = some r := tr H hy248
     have Ny248 := Aside0.mk hy248; clear hy248; have H' := Aside0.mk H; clear H; obtain ⟨hcz8_0, hcz8_1, hfz8_0, hfz8_1⟩ := b2 (w := wr) BK241
     go_wp2_with (first | ((with_reducible refine gate_callee (f := 77) rfl ?_); refine gl (some 16) Tryd.func77 #[.agg #[.slice A0_0 l0_0.length c0_0, .slice A0_1 l0_1.length c0_1], .int .i64 x4_1] ?_; (with_reducible refine (skewbaldref01_ends.calls k1 _ _ l0_0 _ _ l0_1 x4_1 t245 _ cl HC0_0.out cl HC0_1.out A6.out).mono ?_); rintro e w9 ⟨v246, rfl, ho0, hb⟩; refine ⟨_, rfl, ?_⟩; replace HO_3 := Aside0.mk (Kd.S_elder' (bS HO_3) (Kd.R_base ho0) hb); have HO247 := Aside0.mk (Kd.R_lower ho0 (below_size bl)); replace BK241 := nb BK241 hb; replace HB := hs HB hb; (try clear hb); (try clear hb2); (try clear hk); (try clear hi); (try clear ho0); obtain ⟨Ao11, co11, eo11⟩ := Kd.R_slice HO247.out; subst eo11) | ((with_reducible refine gate_builtin (b := .append) (xs := #[.tmp 13, .tmp 17]) rfl ?_); at_builtin; refine Kd.S_append (Kd.slice 3 (Kd.int .i64)) (w0 := w) w.heap.size rfl (.tmp 13) (.tmp 17) 113 31 (.slice none 0 0) 24 rfl Tryd.underlying113 info31 rfl (by decide) (by omega) u3 x3_1 t245 [.slice Ao11 t245.length co11] (fun _ => True) (fun k_ => some k_ = (.slice Ao11 t245.length co11 : Value).ownBlock) rfl rfl ?aP (fun k_ hk_ => ((Kd.R_mono (ok' := fun k_ => ((fun _ => True)) k_ ∧ some k_ ≠ (u3 : Value).ownBlock) (Kd.R_apart' (HO247.out) (Kd.S_typed HO_3.out) (by decide)) (fun k_ hk => ⟨trivial, hk.2⟩))).1 k_ hk_.symm) ?aF ?aO ?aB ?aS ?aL ?_; (case aP => exact Kd.M_row (Kd.R_mono (Kd.R_tight rfl (Kd.R_mono (ok' := fun k_ => ((fun _ => True)) k_ ∧ some k_ ≠ (u3 : Value).ownBlock) (Kd.R_apart' (HO247.out) (Kd.S_typed HO_3.out) (by decide)) (fun k_ hk => ⟨trivial, hk.2⟩))) (fun _ h_ => h_))); (case aB => exact bl); (case aF => exact (fun _ _ => trivial)); (case aO => exact (by (with_reducible repeat (first | apply Kd.S_alloc | apply Kd.S_drewN | apply Kd.S_drew)); exact Kd.S_mono HO_3.out (fun k_ hk => ⟨trivial, fun e_ => hk.2 e_⟩))); (case aS => exact (below_size bl)); (case aL => have := LMc7.out; omega); intro v249 w10 ho hb hg hat; rw [← Ny248.out] at ho; replace BK241 := Aside0.mk (blk_grown (g := gb241) (o := .cells #[.slice A0_0 l0_0.length c0_0, .slice A0_1 l0_1.length c0_1] 25 (0, 0)) bk hg (Kd.S_ne HO_3.out BK241.out (by decide))); replace HB := Aside0.mk hb; have HO250 := Aside0.mk ho; clear HO_3 HO247; clear ho hb hg hat))
     go_roundg k1
     case measure => have := HK1.out; omega
     case rel => exact ⟨(y248), (wrap64 (x4_1 + 1)), sm, H', ⟨lo HK1⟩, ⟨bS HO250⟩, ⟨bk⟩, ⟨bl⟩⟩
    ·rw [if_neg c7] at H
     exact absurd H (by simp)
   ·rw [if_neg c5] at H
    have c5b0 : decide (x4_1 < (l0_0.length : Int)) = false := decide_eq_false c5
    clear c5; obtain rfl := Option.some.inj H; obtain ⟨hcz12_0, hcz12_1, hfz12_0, hfz12_1⟩ := b2 (w := wr) BK241
    go_wp2
    go_ret
    exact ⟨_, by first | rfl | (simp [errW_none, errW_some] <;> rfl) | (simp [*, errW_none, errW_some] <;> rfl), by (with_reducible repeat (first | apply Kd.S_alloc | apply Kd.S_drewN | apply Kd.S_drew)); exact HO_3.out, bl⟩
def skewbaldref01_every.f (k : Nat) (l0_0 : List (S48)) (l0_1 : List (S50)) : Option (List Int) := (skewbaldref00_List.f k (wrap64 ((shl .i64 1 (l0_0.length : Int)) - 1)) (l0_0.length : Int)).bind fun t252 => (some t252)
def skewbaldref01_every.T1 : Bool × List (List Nat × List Nat) := (true, [([], []), ([0], [0]), ([1], [1]), ([2], [2]), ([3], [3]), ([], []), ([5], [5]), ([6], [6]), ([4, 7], [4, 7]), ([8, 8, 0, 1, 2, 3, 4, 5, 6, 7, 8], [8])])
def skewbaldref01_every.B1 : List Nat := [0, 1, 3, 7, 15, 0, 32, 96, 255, 511]
theorem skewbaldref01_every.tab1 : rtab .any (opsOf Tryd.f88 1) = skewbaldref01_every.T1 := by kernel_rfl
theorem skewbaldref01_every.bits1 : waitsOk skewbaldref01_every.T1.2 skewbaldref01_every.B1 = true := by kernel_rfl
set_option maxHeartbeats 8000000 in
set_option maxRecDepth 100000 in
theorem skewbaldref01_every.calls (k : Nat) (A0_0 : Option Addr) (c0_0 : Nat) (l0_0 : List (S48)) (A0_1 : Option Addr) (c0_1 : Nat) (l0_1 : List (S50)) (r : List Int) (w : World) (hr0_0 : Kd.C k48 w A0_0 l0_0.length l0_0) (hc0_0 : l0_0.length ≤ c0_0) (hr0_1 : Kd.C k50 w A0_1 l0_1.length l0_1) (hc0_1 : l0_1.length ≤ c0_1) (h : skewbaldref01_every.f k l0_0 l0_1 = some r) :
  Calls Tryd.prog 88 #[.agg #[.slice A0_0 l0_0.length c0_0, .slice A0_1 l0_1.length c0_1]] w fun e w' => ∃ v0_ : Value, e = .returned (v0_) ∧ Kd.R (Kd.int .i64) 3 w' w.heap.size (fun _ => True) v0_ r ∧ Below w.heap.size w w' := by
 have hu25 := Tryd.underlying25; have HR0_0 := Aside0.mk hr0_0; have HC0_0 := Aside0.mk hc0_0; clear hr0_0 hc0_0; have HR0_1 := Aside0.mk hr0_1; have HC0_1 := Aside0.mk hc0_1; clear hr0_1 hc0_1; have HB := Aside0.mk (Below.refl w.heap.size w)
 have H : ((skewbaldref00_List.f k (wrap64 ((shl .i64 1 (l0_0.length : Int)) - 1)) (l0_0.length : Int)).bind fun t252 => (some t252)) = some r := h
 clear h
 obtain ⟨ji2, hji2⟩ : ∃ j_ : Int, (shl .i64 1 (l0_0.length : Int)) = j_ := ⟨_, rfl⟩
 replace H : ((skewbaldref00_List.f k (wrap64 ((ji2) - 1)) (l0_0.length : Int)).bind fun t252 => (some t252)) = some r := by first | (rw [hji2] at H; exact H) | (simp only [hji2] at H ⊢; exact H)
 have hji2_ : (IntKind.i64.wrap (1 * 2 ^ min (l0_0.length : Int).toNat 64)) = ji2 := hji2
 have hji2z : (l0_0.length : Int) ≤ 64 → (IntKind.i64.wrap (1 * 2 ^ (l0_0.length : Int).toNat)) = ji2 := shl_small hji2
 have hji2p : (IntKind.i64.wrap (1 * 2 ^ min l0_0.length 64)) = ji2 := hji2_
 have hji2q : (l0_0.length : Int) ≤ 64 → (IntKind.i64.wrap (1 * 2 ^ l0_0.length)) = ji2 := hji2z
 have hji2r : (IntKind.i64.wrap (2 ^ min l0_0.length 64)) = ji2 := by have h_ := hji2p; rw [Int.one_mul] at h_; exact h_
 have hji2s : (l0_0.length : Int) ≤ 64 → (IntKind.i64.wrap (2 ^ l0_0.length)) = ji2 := fun hle_ => by have h_ := hji2q hle_; rw [Int.one_mul] at h_; exact h_
 have hji2u : (IntKind.i64.wrap (2 ^ min (l0_0.length : Int).toNat 64)) = ji2 := by have h_ := hji2_; rw [Int.one_mul] at h_; exact h_
 have hji2v : (l0_0.length : Int) ≤ 64 → (IntKind.i64.wrap (2 ^ (l0_0.length : Int).toNat)) = ji2 := fun hle_ => by have h_ := hji2z hle_; rw [Int.one_mul] at h_; exact h_
 have hji2y : (wrap64 (1 * 2 ^ min (l0_0.length : Int).toNat 64)) = ji2 := (i64_w _).symm.trans hji2_
 have hji2x : (l0_0.length : Int) ≤ 64 → (wrap64 (1 * 2 ^ (l0_0.length : Int).toNat)) = ji2 := fun h_ => (i64_w _).symm.trans (hji2z h_)
 have hji2A : (wrap64 (2 ^ min (l0_0.length : Int).toNat 64)) = ji2 := (i64_w _).symm.trans hji2u
 have hji2B : (l0_0.length : Int) ≤ 64 → (wrap64 (2 ^ (l0_0.length : Int).toNat)) = ji2 := fun h_ => (i64_w _).symm.trans (hji2v h_)
 have hji2C : (wrap64 (2 ^ min l0_0.length 64)) = ji2 := (i64_w _).symm.trans hji2r
 have hji2D : (l0_0.length : Int) ≤ 64 → (wrap64 (2 ^ l0_0.length)) = ji2 := fun h_ => (i64_w _).symm.trans (hji2s h_)
 obtain ⟨t252, A3, H⟩ := ob H; obtain rfl := Option.some.inj H
 go_enter Tryd.func88, Tryd.ntmps88
 try go_wp2_with (first | (refine bx 1 #[.slice A0_0 l0_0.length c0_0, .slice A0_1 l0_1.length c0_1] 25 ?_; intro gb251 hg w4 hbox hb; have BK251 := Aside0.mk hbox; have GW251 := gw hg HB; have GE251 := gw hg HB; replace HB := hs HB hb; clear hb hbox hg))
 replace BK251 := Aside0.mk (blk_drew BK251.out); replace HB := Aside0.mk (below_drew1 HB.out)
 refine start_ (n := 10) (S := fun w' => w'.cell? ⟨gb251, 0, none⟩ = some (.slice A0_0 l0_0.length c0_0) ∧ w'.cell? ⟨gb251, 1, none⟩ = some (.slice A0_1 l0_1.length c0_1)) (ds := []) #[false, false, false, false, false, false, false, false, false, false] (by kernel_rfl) rfl rfl ⟨bq BK251 0, bq BK251 1⟩ (fun hHeld => ?_); refine with_tabW skewbaldref01_every.tab1 skewbaldref01_every.bits1 (fun HT_ HW_ => ?_)
 generalize w4.drew = w5 at BK251 HB hHeld ⊢
 refine pu_ (i := 0) (N := some 3) (qa_ 10 1) ?_
 refine pu_ (i := 5) (N := some 8) (qa_ 10 33) ?_
 refine tk_ (i := 1) (N := some 4) (qa_ 10 35) hHeld ?_
 refine pu_ (i := 2) (N := some 5) (qa_ 10 39) ?_
 refine pu_ (i := 3) (N := some 6) (qa_ 10 47) ?_
 refine pu_ (i := 4) (N := some 7) (qa_ 10 63) ?_
 refine tk_ (i := 6) (N := some 9) (qa_ 10 127) hHeld ?_
 refine pu_ (i := 7) (N := some 10) (qa_ 10 255) ?_
 refine on_ (i := 8) (N := some 11) (qa_ 10 511) (fun K hK => ?_)
 refine goes_ Tryd.func40 (by kernel_rfl) rfl #[.int .i64 (wrap64 ((ji2) - 1)), .int .i64 (l0_0.length : Int)] (by rfl) rfl rfl (by (try simp only [List.map_toArray, List.map_cons, List.map_nil]); first | done | (simp only [hji2]; rfl) | rfl | (simp only [List.length_drop, List.length_take]; rfl)) ?_
 with_reducible refine (skewbaldref00_List.calls k (wrap64 ((ji2) - 1)) (l0_0.length : Int) t252 _ A3.out).mono ?_
 rintro e w6 ⟨v253, rfl, ho0, hb⟩
 refine ⟨_, rfl, ?_⟩
 have HO254 := Aside0.mk (Kd.R_lower ho0 (below_size bl)); replace BK251 := nb BK251 hb; replace HB := hs HB hb; (try clear hb); (try clear hb2); (try clear hk); (try clear hi); (try clear ho0)
 refine hK.out _ _ ⟨bq BK251 0, bq BK251 1⟩ (fun hHeld => ?_)
 clear hK K
 refine nm_ (some 11) ?_
 refine pu_ (i := 9) (N := some 2) (qa_ 10 1023) ?_
 refine done_ (done_of HT_.out (by kernel_rfl)) ?_
 try go_wp2
 go_ret
 exact ⟨_, by first | rfl | (simp [errW_none, errW_some] <;> rfl) | (simp only [← hji2]; first | rfl | (simp [errW_none, errW_some] <;> rfl)) | (simp [*, errW_none, errW_some] <;> rfl), by (with_reducible repeat (first | apply Kd.R_alloc | apply Kd.R_drewN | apply Kd.R_drew)); exact HO254.out, bl⟩
mutual
def skewbaldref01_given.l0 : Nat → List (List Int) → List Int → Int → Int → Option (Bool)
 | 0, _, _, _, _ => none
 | k + 1, x0, x1, x2, x7 => if x7 ≤ x2 then (if (Go.bits .and .i64 x7 x2) = x7 then (if 0 < (x1.length : Int) then (if 0 ≤ (rd x1 0) then (if (rd x1 0) < (x0.length : Int) then (if 0 ≤ x7 then (if x7 < ((rd_L4 x0 (rd x1 0)).length : Int) then (if (rd (rd_L4 x0 (rd x1 0)) x7) < 99 then (if 1 ≤ (x1.length : Int) then ((skewbaldref01_given.f k x0 (x1.drop 1) (wrap64 (x2 - x7))).bind fun t259 => (if t259 = true then (some true) else (skewbaldref01_given.l0 k x0 x1 x2 (wrap64 (x7 + 1))))) else (none)) else (skewbaldref01_given.l0 k x0 x1 x2 (wrap64 (x7 + 1)))) else (none)) else (none)) else (none)) else (none)) else (none)) else (skewbaldref01_given.l0 k x0 x1 x2 (wrap64 (x7 + 1)))) else (some false)
def skewbaldref01_given.f : Nat → List (List Int) → List Int → Int → Option (Bool)
 | 0, _, _, _ => none
 | k + 1, l0, l1, a2 => if (l1.length : Int) = 0 then (some (a2 == 0)) else (skewbaldref01_given.l0 k l0 l1 a2 0)
end
set_option maxHeartbeats 8000000 in
set_option maxRecDepth 100000 in
theorem skewbaldref01_given.calls (k : Nat) : ∀ (A0 : Option Addr) (c0 : Nat) (l0 : List (List Int)) (A1 : Option Addr) (c1 : Nat) (l1 : List Int) (a2 : Int) (r : Bool) (w : World) (hr0 : Kd.C (Kd.slice 3 (Kd.int .i64)) w A0 l0.length l0) (hc0 : l0.length ≤ c0) (hr1 : Kd.C (Kd.int .i64) w A1 l1.length l1) (hc1 : l1.length ≤ c1) (h : skewbaldref01_given.f k l0 l1 a2 = some r),
  Calls Tryd.prog 89 #[.slice A0 l0.length c0, .slice A1 l1.length c1, .int .i64 a2] w fun e w' => e = .returned (.bool r) ∧ Drawn0 w w' := by
 induction k using Nat.strongRecOn with
 | _ k ih =>
 intro A0 c0 l0 A1 c1 l1 a2 r w hr0 hc0 hr1 hc1 h
 cases k with
 | zero => exact absurd h (by simp [skewbaldref01_given.f])
 | succ k =>
 simp only [skewbaldref01_given.f] at h
 have HR0 := Aside0.mk hr0; have HC0 := Aside0.mk hc0; clear hr0 hc0; have HR1 := Aside0.mk hr1; have HC1 := Aside0.mk hc1; clear hr1 hc1
 have H : (if (l1.length : Int) = 0 then (some (a2 == 0)) else (skewbaldref01_given.l0 k l0 l1 a2 0)) = some r := h
 clear h
 by_cases c4 : (l1.length : Int) = 0
 ·rw [if_pos c4] at H
  have c4b0 : ((l1.length : Int) == 0) = true := beq_iff_eq.mpr c4
  have c4b1 : ((l1.length : Int) != 0) = false := bne_eq_false_iff_eq.mpr c4
  clear c4; obtain rfl := Option.some.inj H
  go_enter Tryd.func89, Tryd.ntmps89
  go_wp2
  go_ret
  exact ⟨sm, by repeat (first | exact Drawn0.refl _ | apply Drawn0.step)⟩
 ·rw [if_neg c4] at H
  have c4b0 : ((l1.length : Int) == 0) = false := beq_eq_false_iff_ne.mpr c4
  have c4b1 : ((l1.length : Int) != 0) = true := bne_iff_ne.mpr c4
  have c4b2 : ¬ (l1 = []) := fun h_ => c4 (by rw [h_]; rfl)
  have H' := Aside0.mk H; clear H
  go_enter Tryd.func89, Tryd.ntmps89
  go_wp2
  go_loopg [7] k (fun kq v7 w' => ∃ (x7_1 : Int), v7 = .int .i64 x7_1 ∧ Aside0 (skewbaldref01_given.l0 kq l0 l1 a2 x7_1 = some r) ∧ Aside0 (kq ≤ k) ∧ Drawn0 w w')
  case atStart => exact ⟨(0), sm, H', ⟨Nat.le_refl _⟩, by repeat (first | exact Drawn0.refl _ | apply Drawn0.step)⟩
  case round =>
   clear H'; (try clear c1); (try clear p2); (try clear c4); (try clear c4b0); (try clear c4b1); (try clear c4b2); obtain ⟨x7_1, rfl, HA, HK1, ⟨m1, rfl⟩⟩ := hrel
   cases gk with
   | zero => exact absurd HA.out (by simp [skewbaldref01_given.l0])
   | succ k1 =>
    have H := HA.out; clear HA
    simp only [skewbaldref01_given.l0] at H
    by_cases c5 : x7_1 ≤ a2
    ·rw [if_pos c5] at H; have c5b0 := decide_eq_true c5; clear c5
     by_cases c6 : (Go.bits .and .i64 x7_1 a2) = x7_1
     ·rw [if_pos c6] at H
      have c6b0 : ((Go.bits .and .i64 x7_1 a2) == x7_1) = true := beq_iff_eq.mpr c6
      have c6b1 : ((Go.bits .and .i64 x7_1 a2) != x7_1) = false := bne_eq_false_iff_eq.mpr c6
      clear c6
      by_cases c7 : 0 < (l1.length : Int)
      ·rw [if_pos c7] at H; have c7b0 := decide_eq_true c7
       have c7b1 : decide (0 < l1.length) = true := decide_eq_true (by omega)
       clear c7
       by_cases c8 : 0 ≤ (rd l1 0)
       ·rw [if_pos c8] at H; have c8b0 := decide_eq_true c8; clear c8
        by_cases c9 : (rd l1 0) < (l0.length : Int)
        ·rw [if_pos c9] at H; have c9b0 := decide_eq_true c9; clear c9
         by_cases c10 : 0 ≤ x7_1
         ·rw [if_pos c10] at H; have c10b0 := decide_eq_true c10; clear c10
          by_cases c11 : x7_1 < ((rd_L4 l0 (rd l1 0)).length : Int)
          ·rw [if_pos c11] at H; have c11b0 := decide_eq_true c11; clear c11
           by_cases c12 : (rd (rd_L4 l0 (rd l1 0)) x7_1) < 99
           ·rw [if_pos c12] at H; have c12b0 := decide_eq_true c12; clear c12
            by_cases c13 : 1 ≤ (l1.length : Int)
            ·rw [if_pos c13] at H; have c13b0 := eq_true c13; have c13b1 := decide_eq_true c13; clear c13; obtain ⟨t259, A14, H⟩ := ob H
             by_cases c15 : t259 = true
             ·subst c15; rw [if_pos rfl] at H; obtain rfl := Option.some.inj H
              have p255 : 0 ≤ (0 : Int) := (by omega)
              have q255 : 0 < (l1.length : Int) := od
              obtain ⟨ad255, e255, hx255_0⟩ := Kd.at_int HR1.out 0 p255 q255
              cases e255
              have qi255 : (0 < l1.length) = True := eq_true (by omega)
              (try rw [show ((0 : Int)).toNat = 0 from rfl] at hx255_0)
              (try rw [Addr.add_zero'] at hx255_0)
              replace p255 := eq_true p255; replace q255 := eq_true q255
              have p256 : 0 ≤ ((rd l1 0) : Int) := od
              have q256 : (rd l1 0) < (l0.length : Int) := od
              obtain ⟨ad256, A256_0, c256_0, e256, hx256_0, hl256_0, hi256_0⟩ := at_L4 HR0.out (rd l1 0) p256 q256
              cases e256
              have HR256_0 := Aside0.mk hi256_0; have HC256_0 := Aside0.mk hl256_0; clear hi256_0 hl256_0; replace p256 := eq_true p256; replace q256 := eq_true q256
              have p257 : 0 ≤ (x7_1 : Int) := od
              have q257 : x7_1 < ((rd_L4 l0 (rd l1 0)).length : Int) := od
              obtain ⟨ad257, e257, hx257_0⟩ := Kd.at_int HR256_0.out x7_1 p257 q257
              cases e257
              replace p257 := eq_true p257; replace q257 := eq_true q257; obtain ⟨i016, hi016, _, hsz16, _⟩ := info_parts info3
              obtain ⟨A16, hcut16, hA16, hC16⟩ := print_drop_of (P := Tryd.prog) (Value.int .i64) 0 31 3 .i64 Tryd.underlying31 hi016 hsz16 (some ad255) c1 l1 1 (by omega) od HC1.out
              have HR258 := Aside0.mk (Kd.C_of_reads (h1 := fun _ => rfl) (hA16 _ (Kd.reads_of_C HR1.out)))
              have HC258 := Aside0.mk hC16; clear hA16 hC16 hi016 hsz16
              go_wp2_with (first | (go_at_call 89; (rw [show l1.length - 1 = (l1.drop 1).length from List.length_drop.symm]); (with_reducible refine (ih k1 (lo HK1) _ _ l0 _ _ (l1.drop 1) (wrap64 (a2 - x7_1)) true _ ?side1 ?side2 ?side3 ?side4 A14.out).mono ?_); (case side1 => repeat (first | exact HR0.out | (with_reducible refine Kd.C_alloc ?_ _) | (with_reducible refine Kd.C_drewN ?_ _) | (with_reducible refine Kd.C_drew ?_))); (case side2 => exact HC0.out); (case side3 => repeat (first | exact HR258.out | (with_reducible refine Kd.C_alloc ?_ _) | (with_reducible refine Kd.C_drewN ?_ _) | (with_reducible refine Kd.C_drew ?_))); (case side4 => exact HC258.out); rintro e w' ⟨rfl, ⟨nd, rfl⟩⟩))
              go_ret
              exact ⟨sm, by repeat (first | exact Drawn0.refl _ | apply Drawn0.step)⟩
             ·replace c15 := Bool.eq_false_iff.mpr c15; subst c15
              rw [if_neg (show ¬ (false = true) by decide)] at H
              have H' := Aside0.mk H; clear H
              have p255 : 0 ≤ (0 : Int) := (by omega)
              have q255 : 0 < (l1.length : Int) := od
              obtain ⟨ad255, e255, hx255_0⟩ := Kd.at_int HR1.out 0 p255 q255
              cases e255
              have qi255 : (0 < l1.length) = True := eq_true (by omega)
              (try rw [show ((0 : Int)).toNat = 0 from rfl] at hx255_0)
              (try rw [Addr.add_zero'] at hx255_0)
              replace p255 := eq_true p255; replace q255 := eq_true q255
              have p256 : 0 ≤ ((rd l1 0) : Int) := od
              have q256 : (rd l1 0) < (l0.length : Int) := od
              obtain ⟨ad256, A256_0, c256_0, e256, hx256_0, hl256_0, hi256_0⟩ := at_L4 HR0.out (rd l1 0) p256 q256
              cases e256
              have HR256_0 := Aside0.mk hi256_0; have HC256_0 := Aside0.mk hl256_0; clear hi256_0 hl256_0; replace p256 := eq_true p256; replace q256 := eq_true q256
              have p257 : 0 ≤ (x7_1 : Int) := od
              have q257 : x7_1 < ((rd_L4 l0 (rd l1 0)).length : Int) := od
              obtain ⟨ad257, e257, hx257_0⟩ := Kd.at_int HR256_0.out x7_1 p257 q257
              cases e257
              replace p257 := eq_true p257; replace q257 := eq_true q257; obtain ⟨i017, hi017, _, hsz17, _⟩ := info_parts info3
              obtain ⟨A17, hcut17, hA17, hC17⟩ := print_drop_of (P := Tryd.prog) (Value.int .i64) 0 31 3 .i64 Tryd.underlying31 hi017 hsz17 (some ad255) c1 l1 1 (by omega) od HC1.out
              have HR258 := Aside0.mk (Kd.C_of_reads (h1 := fun _ => rfl) (hA17 _ (Kd.reads_of_C HR1.out)))
              have HC258 := Aside0.mk hC17; clear hA17 hC17 hi017 hsz17
              go_wp2_with (first | (go_at_call 89; (rw [show l1.length - 1 = (l1.drop 1).length from List.length_drop.symm]); (with_reducible refine (ih k1 (lo HK1) _ _ l0 _ _ (l1.drop 1) (wrap64 (a2 - x7_1)) false _ ?side1 ?side2 ?side3 ?side4 A14.out).mono ?_); (case side1 => repeat (first | exact HR0.out | (with_reducible refine Kd.C_alloc ?_ _) | (with_reducible refine Kd.C_drewN ?_ _) | (with_reducible refine Kd.C_drew ?_))); (case side2 => exact HC0.out); (case side3 => repeat (first | exact HR258.out | (with_reducible refine Kd.C_alloc ?_ _) | (with_reducible refine Kd.C_drewN ?_ _) | (with_reducible refine Kd.C_drew ?_))); (case side4 => exact HC258.out); rintro e w' ⟨rfl, ⟨nd, rfl⟩⟩))
              go_roundg k1
              case measure => have := HK1.out; omega
              case rel => exact ⟨(wrap64 (x7_1 + 1)), sm, H', ⟨lo HK1⟩, by repeat (first | exact Drawn0.refl _ | apply Drawn0.step)⟩
            ·rw [if_neg c13] at H
             exact absurd H (by simp)
           ·rw [if_neg c12] at H
            have c12b0 : decide ((rd (rd_L4 l0 (rd l1 0)) x7_1) < 99) = false := decide_eq_false c12
            clear c12; have H' := Aside0.mk H; clear H
            have p255 : 0 ≤ (0 : Int) := (by omega)
            have q255 : 0 < (l1.length : Int) := od
            obtain ⟨ad255, e255, hx255_0⟩ := Kd.at_int HR1.out 0 p255 q255
            cases e255
            have qi255 : (0 < l1.length) = True := eq_true (by omega)
            (try rw [show ((0 : Int)).toNat = 0 from rfl] at hx255_0)
            (try rw [Addr.add_zero'] at hx255_0)
            replace p255 := eq_true p255; replace q255 := eq_true q255
            have p256 : 0 ≤ ((rd l1 0) : Int) := od
            have q256 : (rd l1 0) < (l0.length : Int) := od
            obtain ⟨ad256, A256_0, c256_0, e256, hx256_0, hl256_0, hi256_0⟩ := at_L4 HR0.out (rd l1 0) p256 q256
            cases e256
            have HR256_0 := Aside0.mk hi256_0; have HC256_0 := Aside0.mk hl256_0; clear hi256_0 hl256_0; replace p256 := eq_true p256; replace q256 := eq_true q256
            have p257 : 0 ≤ (x7_1 : Int) := od
            have q257 : x7_1 < ((rd_L4 l0 (rd l1 0)).length : Int) := od
            obtain ⟨ad257, e257, hx257_0⟩ := Kd.at_int HR256_0.out x7_1 p257 q257
            cases e257
            replace p257 := eq_true p257; replace q257 := eq_true q257
            go_wp2
            go_roundg k1
            case measure => have := HK1.out; omega
            case rel => exact ⟨(wrap64 (x7_1 + 1)), sm, H', ⟨lo HK1⟩, by repeat (first | exact Drawn0.refl _ | apply Drawn0.step)⟩
          ·rw [if_neg c11] at H
           exact absurd H (by simp)
         ·rw [if_neg c10] at H
          exact absurd H (by simp)
        ·rw [if_neg c9] at H
         exact absurd H (by simp)
       ·rw [if_neg c8] at H
        exact absurd H (by simp)
      ·rw [if_neg c7] at H
       exact absurd H (by simp)
     ·rw [if_neg c6] at H
      have c6b0 : ((Go.bits .and .i64 x7_1 a2) == x7_1) = false := beq_eq_false_iff_ne.mpr c6
      have c6b1 : ((Go.bits .and .i64 x7_1 a2) != x7_1) = true := bne_iff_ne.mpr c6
      have H' := Aside0.mk H; clear H
      go_wp2
      go_roundg k1
      case measure => have := HK1.out; omega
      case rel => exact ⟨(wrap64 (x7_1 + 1)), sm, H', ⟨lo HK1⟩, by repeat (first | exact Drawn0.refl _ | apply Drawn0.step)⟩
    ·rw [if_neg c5] at H
     have c5b0 : decide (x7_1 ≤ a2) = false := decide_eq_false c5
     clear c5; obtain rfl := Option.some.inj H
     go_wp2
     go_ret
     exact ⟨sm, by repeat (first | exact Drawn0.refl _ | apply Drawn0.step)⟩
def skewbaldref01_most.l0 : Nat → List (List Int) → List Int → Int → List (S48) → List (S50) → Option (List Int)
 | 0, _, _, _, _, _ => none
 | k + 1, x3, x4, x5, x284000, x284001 => if x5 < (shl .i64 1 (x284001.length : Int)) then ((skewbaldref00_List.f k x5 (x284001.length : Int)).bind fun t290 => (if (t290.length : Int) > (x4.length : Int) then ((skewbaldref01_every.f k x284000 x284001).bind fun t293 => ((skewbaldref01_given.f k x3 t293 x5).bind fun t296 => (if t296 = true then (skewbaldref01_most.l0 k x3 t290 (wrap64 (x5 + 1)) x284000 x284001) else (skewbaldref01_most.l0 k x3 x4 (wrap64 (x5 + 1)) x284000 x284001)))) else (if (t290.length : Int) = (x4.length : Int) then ((skewbaldref00_Less.f k t290 x4).bind fun t297 => (if t297 = true then ((skewbaldref01_every.f k x284000 x284001).bind fun t298 => ((skewbaldref01_given.f k x3 t298 x5).bind fun t301 => (if t301 = true then (skewbaldref01_most.l0 k x3 t290 (wrap64 (x5 + 1)) x284000 x284001) else (skewbaldref01_most.l0 k x3 x4 (wrap64 (x5 + 1)) x284000 x284001)))) else (skewbaldref01_most.l0 k x3 x4 (wrap64 (x5 + 1)) x284000 x284001))) else (skewbaldref01_most.l0 k x3 x4 (wrap64 (x5 + 1)) x284000 x284001)))) else (some x4)
def skewbaldref01_most.f (k : Nat) (l0_0 : List (S48)) (l0_1 : List (S50)) : Option (List Int) := (skewbaldref01_tables.f k l0_0 l0_1).bind fun t284 => (skewbaldref01_most.l0 k t284 (([] : List Int)) 0 l0_0 l0_1)
set_option maxHeartbeats 8000000 in
set_option maxRecDepth 100000 in
theorem skewbaldref01_most.calls (k : Nat) (A0_0 : Option Addr) (c0_0 : Nat) (l0_0 : List (S48)) (A0_1 : Option Addr) (c0_1 : Nat) (l0_1 : List (S50)) (r : List Int) (w : World) (hr0_0 : Kd.C k48 w A0_0 l0_0.length l0_0) (hc0_0 : l0_0.length ≤ c0_0) (hr0_1 : Kd.C k50 w A0_1 l0_1.length l0_1) (hc0_1 : l0_1.length ≤ c0_1) (h : skewbaldref01_most.f k l0_0 l0_1 = some r) :
  Calls Tryd.prog 80 #[.agg #[.slice A0_0 l0_0.length c0_0, .slice A0_1 l0_1.length c0_1]] w fun e w' => ∃ v0_ : Value, e = .returned (v0_) ∧ Kd.R (Kd.int .i64) 3 w' w.heap.size (fun _ => True) v0_ r ∧ Below w.heap.size w w' := by
 have hu25 := Tryd.underlying25; have HR0_0 := Aside0.mk hr0_0; have HC0_0 := Aside0.mk hc0_0; clear hr0_0 hc0_0; have HR0_1 := Aside0.mk hr0_1; have HC0_1 := Aside0.mk hc0_1; clear hr0_1 hc0_1; have HB := Aside0.mk (Below.refl w.heap.size w)
 have H : ((skewbaldref01_tables.f k l0_0 l0_1).bind fun t284 => (skewbaldref01_most.l0 k t284 (([] : List Int)) 0 l0_0 l0_1)) = some r := h
 clear h; obtain ⟨t284, A2, H⟩ := ob H
 obtain ⟨y287, hy287⟩ : ∃ y_ : List Int, y_ = (([] : List Int)) := ⟨_, rfl⟩
 replace H : (skewbaldref01_most.l0 k t284 y287 0 l0_0 l0_1) = some r := tr H hy287
 have Ny287 := Aside0.mk hy287; clear hy287; have H' := Aside0.mk H; clear H
 go_enter Tryd.func80, Tryd.ntmps80
 go_wp2_with (first | ((with_reducible refine gate_dst (N := 1) rfl ?_); (try (refine gate_guard (by rfl) ?_; dsimp only)); refine bx 1 #[.slice A0_0 l0_0.length c0_0, .slice A0_1 l0_1.length c0_1] 25 ?_; intro gb283 hg w3 hbox hb; have BK283 := Aside0.mk hbox; have GW283 := gw hg HB; have GE283 := gw hg HB; replace HB := hs HB hb; clear hb hbox hg; obtain ⟨hcz4_0, hcz4_1, hfz4_0, hfz4_1⟩ := b2 (w := w3) BK283) | ((with_reducible refine gate_callee (f := 87) rfl ?_); refine gl (some 8) Tryd.func87 #[.agg #[.slice A0_0 l0_0.length c0_0, .slice A0_1 l0_1.length c0_1]] ?_; (with_reducible refine (skewbaldref01_tables.calls k _ _ l0_0 _ _ l0_1 t284 _ cl HC0_0.out cl HC0_1.out A2.out).mono ?_); rintro e w5 ⟨v285, rfl, ho0, hb⟩; refine ⟨_, rfl, ?_⟩; have HO286 := Aside0.mk (Kd.S_lower ho0 (below_size bl)); replace BK283 := nb BK283 hb; replace HB := hs HB hb; (try clear hb); (try clear hb2); (try clear hk); (try clear hi); (try clear ho0)) | ((with_reducible refine gate_dst (N := 9) rfl ?_); (try (refine gate_guard (by rfl) ?_; dsimp only)); refine Kd.R_lit (Kd.int .i64) _ 3 ?hg (N := 9) ?hd (xs := ([] : List Int)) (inner := []) (ok := fun _ => True) (okp := fun _ => True) ?hr ?hp (fun _ hk => hk) trivial (Below.refl _ _) (Nat.le_refl _) (by simp) ?_; (case hd => rfl); (case hg => rfl); (case hr => first | (go_simp; done) | (go_simp; rfl)); (case hp => exact (Reps.none _ _)); intro v288 w6 ho7 hb hg_ hnew_; clear hg_ hnew_; (first | rw [← Ny287.out] at ho7 | (simp only [Int.reduceToNat] at ho7; rw [← Ny287.out] at ho7)); replace HO286 := Aside0.mk (Kd.S_elder' (bS HO286) (Kd.R_base ho7) hb); have HO289 := Aside0.mk (Kd.R_lower ho7 (below_size bl)); replace BK283 := nb BK283 hb; replace HB := hs HB hb; clear hb ho7))
 go_loopg [4, 5] k (fun kq v4 v5 w' => ∃ (x4_1 : List Int) (x5_1 : Int), v5 = .int .i64 x5_1 ∧ Aside0 (skewbaldref01_most.l0 kq t284 x4_1 x5_1 l0_0 l0_1 = some r) ∧ Aside0 (kq ≤ k) ∧ Aside0 (Kd.S (Kd.slice 3 (Kd.int .i64)) 31 w' w.heap.size (fun k_ => some k_ ≠ (v4 : Value).ownBlock) v285 t284) ∧ Aside0 (Kd.R (Kd.int .i64) 3 w' w.heap.size (fun _ => True) v4 x4_1) ∧ Aside0 (w'.heap[gb283]? = some (.cells #[(.slice A0_0 l0_0.length c0_0), (.slice A0_1 l0_1.length c0_1)] 25 (0, 0))) ∧ Aside0 (Below w.heap.size w w'))
 case atStart => exact ⟨(y287), (0), sm, H', ⟨Nat.le_refl _⟩, ⟨by (with_reducible repeat (first | apply Kd.S_alloc | apply Kd.S_drewN | apply Kd.S_drew)); exact Kd.S_mono HO286.out (fun _ hk => hk.2)⟩, ⟨bR HO289⟩, ⟨bk⟩, ⟨bl⟩⟩
 case round =>
  clear H'; (try clear p2); (try clear hcz4_0); (try clear hcz4_1); (try clear hfz4_0); (try clear hfz4_1); obtain ⟨x4_1, x5_1, rfl, HA, HK1, HO_3, HO_4, BK283, HB⟩ := hrel
  cases gk with
  | zero => exact absurd HA.out (by simp [skewbaldref01_most.l0])
  | succ k1 =>
   have H := HA.out; clear HA
   simp only [skewbaldref01_most.l0] at H
   obtain ⟨ji8, hji8⟩ : ∃ j_ : Int, (shl .i64 1 (l0_1.length : Int)) = j_ := ⟨_, rfl⟩
   replace H : (if x5_1 < (ji8) then ((skewbaldref00_List.f k1 x5_1 (l0_1.length : Int)).bind fun t290 => (if (t290.length : Int) > (x4_1.length : Int) then ((skewbaldref01_every.f k1 l0_0 l0_1).bind fun t293 => ((skewbaldref01_given.f k1 t284 t293 x5_1).bind fun t296 => (if t296 = true then (skewbaldref01_most.l0 k1 t284 t290 (wrap64 (x5_1 + 1)) l0_0 l0_1) else (skewbaldref01_most.l0 k1 t284 x4_1 (wrap64 (x5_1 + 1)) l0_0 l0_1)))) else (if (t290.length : Int) = (x4_1.length : Int) then ((skewbaldref00_Less.f k1 t290 x4_1).bind fun t297 => (if t297 = true then ((skewbaldref01_every.f k1 l0_0 l0_1).bind fun t298 => ((skewbaldref01_given.f k1 t284 t298 x5_1).bind fun t301 => (if t301 = true then (skewbaldref01_most.l0 k1 t284 t290 (wrap64 (x5_1 + 1)) l0_0 l0_1) else (skewbaldref01_most.l0 k1 t284 x4_1 (wrap64 (x5_1 + 1)) l0_0 l0_1)))) else (skewbaldref01_most.l0 k1 t284 x4_1 (wrap64 (x5_1 + 1)) l0_0 l0_1))) else (skewbaldref01_most.l0 k1 t284 x4_1 (wrap64 (x5_1 + 1)) l0_0 l0_1)))) else (some x4_1)) = some r := by first | (rw [hji8] at H; exact H) | (simp only [hji8] at H ⊢; exact H)
   have hji8_ : (IntKind.i64.wrap (1 * 2 ^ min (l0_1.length : Int).toNat 64)) = ji8 := hji8
   have hji8z : (l0_1.length : Int) ≤ 64 → (IntKind.i64.wrap (1 * 2 ^ (l0_1.length : Int).toNat)) = ji8 := shl_small hji8
   have hji8p : (IntKind.i64.wrap (1 * 2 ^ min l0_1.length 64)) = ji8 := hji8_
   have hji8q : (l0_1.length : Int) ≤ 64 → (IntKind.i64.wrap (1 * 2 ^ l0_1.length)) = ji8 := hji8z
   have hji8r : (IntKind.i64.wrap (2 ^ min l0_1.length 64)) = ji8 := by have h_ := hji8p; rw [Int.one_mul] at h_; exact h_
   have hji8s : (l0_1.length : Int) ≤ 64 → (IntKind.i64.wrap (2 ^ l0_1.length)) = ji8 := fun hle_ => by have h_ := hji8q hle_; rw [Int.one_mul] at h_; exact h_
   have hji8u : (IntKind.i64.wrap (2 ^ min (l0_1.length : Int).toNat 64)) = ji8 := by have h_ := hji8_; rw [Int.one_mul] at h_; exact h_
   have hji8v : (l0_1.length : Int) ≤ 64 → (IntKind.i64.wrap (2 ^ (l0_1.length : Int).toNat)) = ji8 := fun hle_ => by have h_ := hji8z hle_; rw [Int.one_mul] at h_; exact h_
   have hji8y : (wrap64 (1 * 2 ^ min (l0_1.length : Int).toNat 64)) = ji8 := (i64_w _).symm.trans hji8_
   have hji8x : (l0_1.length : Int) ≤ 64 → (wrap64 (1 * 2 ^ (l0_1.length : Int).toNat)) = ji8 := fun h_ => (i64_w _).symm.trans (hji8z h_)
   have hji8A : (wrap64 (2 ^ min (l0_1.length : Int).toNat 64)) = ji8 := (i64_w _).symm.trans hji8u
   have hji8B : (l0_1.length : Int) ≤ 64 → (wrap64 (2 ^ (l0_1.length : Int).toNat)) = ji8 := fun h_ => (i64_w _).symm.trans (hji8v h_)
   have hji8C : (wrap64 (2 ^ min l0_1.length 64)) = ji8 := (i64_w _).symm.trans hji8r
   have hji8D : (l0_1.length : Int) ≤ 64 → (wrap64 (2 ^ l0_1.length)) = ji8 := fun h_ => (i64_w _).symm.trans (hji8s h_)
   by_cases c9 : x5_1 < (ji8)
   ·rw [if_pos c9] at H; have c9b0 := decide_eq_true c9; clear c9; obtain ⟨t290, A10, H⟩ := ob H
    by_cases c11 : (t290.length : Int) > (x4_1.length : Int)
    ·rw [if_pos c11] at H; have c11b0 := decide_eq_true c11
     have c11b1 : decide (x4_1.length < t290.length) = true := decide_eq_true (Int.ofNat_lt.mp c11)
     clear c11; obtain ⟨t293, A12, H⟩ := ob H; obtain ⟨t296, A13, H⟩ := ob H
     by_cases c14 : t296 = true
     ·subst c14; rw [if_pos rfl] at H; have H' := Aside0.mk H; clear H; obtain ⟨hcz15_0, hcz15_1, hfz15_0, hfz15_1⟩ := b2 (w := wr) BK283
      go_wp2_with (first | ((with_reducible refine gate_callee (f := 40) rfl ?_); refine gl (some 22) Tryd.func40 #[.int .i64 x5_1, .int .i64 (l0_1.length : Int)] ?_; (with_reducible refine (skewbaldref00_List.calls k1 x5_1 (l0_1.length : Int) t290 _ A10.out).mono ?_); rintro e w16 ⟨v291, rfl, ho0, hb⟩; refine ⟨_, rfl, ?_⟩; replace HO_3 := Aside0.mk (Kd.S_elder' (bS HO_3) (Kd.R_base ho0) hb); have HO292 := Aside0.mk (Kd.R_lower (Kd.R_new' ho0 (Kd.R_lt (bR HO_4))) (below_size bl)); replace HO_4 := Aside0.mk (Kd.R_elder' (bR HO_4) (Kd.R_base ho0) hb); replace BK283 := nb BK283 hb; replace HB := hs HB hb; (try clear hb); (try clear hb2); (try clear hk); (try clear hi); (try clear ho0); obtain ⟨Ao17, co17, eo17⟩ := Kd.R_slice HO292.out; subst eo17; obtain ⟨Ao18, co18, eo18⟩ := Kd.R_slice HO_4.out; subst eo18; obtain ⟨hcz19_0, hcz19_1, hfz19_0, hfz19_1⟩ := b2 (w := w16) BK283) | (go_at_call 88; (with_reducible refine (skewbaldref01_every.calls k1 _ _ l0_0 _ _ l0_1 t293 _ cl HC0_0.out cl HC0_1.out A12.out).mono ?_); rintro e w20 ⟨v294, rfl, ho0, hb⟩; replace HO_3 := Aside0.mk (Kd.S_elder' (bS HO_3) (Kd.R_base ho0) hb); have HO295 := Aside0.mk (Kd.R_lower (Kd.R_new' (Kd.R_new' ho0 (Kd.R_lt (bR HO_4))) (Kd.R_lt (bR HO292))) (below_size bl)); replace HO_4 := Aside0.mk (Kd.R_elder' (bR HO_4) (Kd.R_base ho0) hb); replace HO292 := Aside0.mk (Kd.R_elder' (bR HO292) (Kd.R_base ho0) hb); replace BK283 := nb BK283 hb; replace HB := hs HB hb; (try clear hb); (try clear hb2); (try clear hk); (try clear hi); (try clear ho0); obtain ⟨Ao21, co21, eo21⟩ := Kd.S_slice HO_3.out; subst eo21; obtain ⟨Ao22, co22, eo22⟩ := Kd.R_slice HO295.out; subst eo22) | (go_at_call 89; (with_reducible refine (skewbaldref01_given.calls k1 _ _ t284 _ _ t293 x5_1 true _ ?side1 ?side2 ?side3 ?side4 A13.out).mono ?_); (case side1 => repeat (first | exact (Kd.S_reads' HO_3.out).2.2 | (with_reducible refine Kd.C_alloc ?_ _) | (with_reducible refine Kd.C_drewN ?_ _) | (with_reducible refine Kd.C_drew ?_))); (case side2 => exact (Kd.S_reads' HO_3.out).2.1); (case side3 => repeat (first | exact (Kd.R_reads' HO295.out).2.2 | (with_reducible refine Kd.C_alloc ?_ _) | (with_reducible refine Kd.C_drewN ?_ _) | (with_reducible refine Kd.C_drew ?_))); (case side4 => exact (Kd.R_reads' HO295.out).2.1); rintro e w' ⟨rfl, ⟨nd, rfl⟩⟩))
      go_roundg k1
      case measure => have := HK1.out; omega
      case rel => exact ⟨(t290), (wrap64 (x5_1 + 1)), sm, H', ⟨lo HK1⟩, ⟨by (with_reducible repeat (first | apply Kd.S_alloc | apply Kd.S_drewN | apply Kd.S_drew)); exact Kd.S_mono HO_3.out (fun _ hk => hk.1.2)⟩, ⟨by (with_reducible repeat (first | apply Kd.R_alloc | apply Kd.R_drewN | apply Kd.R_drew)); exact Kd.R_mono HO292.out (fun _ hk => trivial)⟩, ⟨bk⟩, ⟨bl⟩⟩
     ·replace c14 := Bool.eq_false_iff.mpr c14; subst c14
      rw [if_neg (show ¬ (false = true) by decide)] at H
      have H' := Aside0.mk H; clear H; obtain ⟨hcz23_0, hcz23_1, hfz23_0, hfz23_1⟩ := b2 (w := wr) BK283
      go_wp2_with (first | ((with_reducible refine gate_callee (f := 40) rfl ?_); refine gl (some 22) Tryd.func40 #[.int .i64 x5_1, .int .i64 (l0_1.length : Int)] ?_; (with_reducible refine (skewbaldref00_List.calls k1 x5_1 (l0_1.length : Int) t290 _ A10.out).mono ?_); rintro e w24 ⟨v291, rfl, ho0, hb⟩; refine ⟨_, rfl, ?_⟩; replace HO_3 := Aside0.mk (Kd.S_elder' (bS HO_3) (Kd.R_base ho0) hb); have HO292 := Aside0.mk (Kd.R_lower (Kd.R_new' ho0 (Kd.R_lt (bR HO_4))) (below_size bl)); replace HO_4 := Aside0.mk (Kd.R_elder' (bR HO_4) (Kd.R_base ho0) hb); replace BK283 := nb BK283 hb; replace HB := hs HB hb; (try clear hb); (try clear hb2); (try clear hk); (try clear hi); (try clear ho0); obtain ⟨Ao25, co25, eo25⟩ := Kd.R_slice HO292.out; subst eo25; obtain ⟨Ao26, co26, eo26⟩ := Kd.R_slice HO_4.out; subst eo26; obtain ⟨hcz27_0, hcz27_1, hfz27_0, hfz27_1⟩ := b2 (w := w24) BK283) | (go_at_call 88; (with_reducible refine (skewbaldref01_every.calls k1 _ _ l0_0 _ _ l0_1 t293 _ cl HC0_0.out cl HC0_1.out A12.out).mono ?_); rintro e w28 ⟨v294, rfl, ho0, hb⟩; replace HO_3 := Aside0.mk (Kd.S_elder' (bS HO_3) (Kd.R_base ho0) hb); have HO295 := Aside0.mk (Kd.R_lower (Kd.R_new' (Kd.R_new' ho0 (Kd.R_lt (bR HO_4))) (Kd.R_lt (bR HO292))) (below_size bl)); replace HO_4 := Aside0.mk (Kd.R_elder' (bR HO_4) (Kd.R_base ho0) hb); replace HO292 := Aside0.mk (Kd.R_elder' (bR HO292) (Kd.R_base ho0) hb); replace BK283 := nb BK283 hb; replace HB := hs HB hb; (try clear hb); (try clear hb2); (try clear hk); (try clear hi); (try clear ho0); obtain ⟨Ao29, co29, eo29⟩ := Kd.S_slice HO_3.out; subst eo29; obtain ⟨Ao30, co30, eo30⟩ := Kd.R_slice HO295.out; subst eo30) | (go_at_call 89; (with_reducible refine (skewbaldref01_given.calls k1 _ _ t284 _ _ t293 x5_1 false _ ?side1 ?side2 ?side3 ?side4 A13.out).mono ?_); (case side1 => repeat (first | exact (Kd.S_reads' HO_3.out).2.2 | (with_reducible refine Kd.C_alloc ?_ _) | (with_reducible refine Kd.C_drewN ?_ _) | (with_reducible refine Kd.C_drew ?_))); (case side2 => exact (Kd.S_reads' HO_3.out).2.1); (case side3 => repeat (first | exact (Kd.R_reads' HO295.out).2.2 | (with_reducible refine Kd.C_alloc ?_ _) | (with_reducible refine Kd.C_drewN ?_ _) | (with_reducible refine Kd.C_drew ?_))); (case side4 => exact (Kd.R_reads' HO295.out).2.1); rintro e w' ⟨rfl, ⟨nd, rfl⟩⟩))
      go_roundg k1
      case measure => have := HK1.out; omega
      case rel => exact ⟨(x4_1), (wrap64 (x5_1 + 1)), sm, H', ⟨lo HK1⟩, ⟨by (with_reducible repeat (first | apply Kd.S_alloc | apply Kd.S_drewN | apply Kd.S_drew)); exact Kd.S_mono HO_3.out (fun _ hk => hk.1.1)⟩, ⟨by (with_reducible repeat (first | apply Kd.R_alloc | apply Kd.R_drewN | apply Kd.R_drew)); exact Kd.R_mono HO_4.out (fun _ hk => trivial)⟩, ⟨bk⟩, ⟨bl⟩⟩
    ·rw [if_neg c11] at H
     have c11b0 : decide ((x4_1.length : Int) < (t290.length : Int)) = false := decide_eq_false c11
     have c11b1 : decide (x4_1.length < t290.length) = false := decide_eq_false (fun h => c11 (Int.ofNat_lt.mpr h))
     clear c11
     by_cases c31 : (t290.length : Int) = (x4_1.length : Int)
     ·rw [if_pos c31] at H
      have c31b0 : ((t290.length : Int) == (x4_1.length : Int)) = true := beq_iff_eq.mpr c31
      have c31b1 : ((t290.length : Int) != (x4_1.length : Int)) = false := bne_eq_false_iff_eq.mpr c31
      have c31b2 : (t290.length == x4_1.length) = true := by first | simpa using c31 | (simp at c31 ⊢; omega)
      clear c31; obtain ⟨t297, A32, H⟩ := ob H
      by_cases c33 : t297 = true
      ·subst c33; rw [if_pos rfl] at H; obtain ⟨t298, A34, H⟩ := ob H; obtain ⟨t301, A35, H⟩ := ob H
       by_cases c36 : t301 = true
       ·subst c36; rw [if_pos rfl] at H; have H' := Aside0.mk H; clear H; obtain ⟨hcz37_0, hcz37_1, hfz37_0, hfz37_1⟩ := b2 (w := wr) BK283
        go_wp2_with (first | ((with_reducible refine gate_callee (f := 40) rfl ?_); refine gl (some 22) Tryd.func40 #[.int .i64 x5_1, .int .i64 (l0_1.length : Int)] ?_; (with_reducible refine (skewbaldref00_List.calls k1 x5_1 (l0_1.length : Int) t290 _ A10.out).mono ?_); rintro e w38 ⟨v291, rfl, ho0, hb⟩; refine ⟨_, rfl, ?_⟩; replace HO_3 := Aside0.mk (Kd.S_elder' (bS HO_3) (Kd.R_base ho0) hb); have HO292 := Aside0.mk (Kd.R_lower (Kd.R_new' ho0 (Kd.R_lt (bR HO_4))) (below_size bl)); replace HO_4 := Aside0.mk (Kd.R_elder' (bR HO_4) (Kd.R_base ho0) hb); replace BK283 := nb BK283 hb; replace HB := hs HB hb; (try clear hb); (try clear hb2); (try clear hk); (try clear hi); (try clear ho0); obtain ⟨Ao39, co39, eo39⟩ := Kd.R_slice HO292.out; subst eo39; obtain ⟨Ao40, co40, eo40⟩ := Kd.R_slice HO_4.out; subst eo40) | (go_at_call 44; (with_reducible refine (skewbaldref00_Less.calls k1 _ _ t290 _ _ x4_1 true _ ?side1 ?side2 ?side3 ?side4 A32.out).mono ?_); (case side1 => repeat (first | exact (Kd.R_reads' HO292.out).2.2 | (with_reducible refine Kd.C_alloc ?_ _) | (with_reducible refine Kd.C_drewN ?_ _) | (with_reducible refine Kd.C_drew ?_))); (case side2 => exact (Kd.R_reads' HO292.out).2.1); (case side3 => repeat (first | exact (Kd.R_reads' HO_4.out).2.2 | (with_reducible refine Kd.C_alloc ?_ _) | (with_reducible refine Kd.C_drewN ?_ _) | (with_reducible refine Kd.C_drew ?_))); (case side4 => exact (Kd.R_reads' HO_4.out).2.1); rintro e w' ⟨rfl, ⟨nd, rfl⟩⟩; obtain ⟨hcz41_0, hcz41_1, hfz41_0, hfz41_1⟩ := b2 (w := w38) BK283) | (go_at_call 88; (with_reducible refine (skewbaldref01_every.calls k1 _ _ l0_0 _ _ l0_1 t298 _ ?side1 ?side2 ?side3 ?side4 A34.out).mono ?_); (case side1 => repeat (first | exact (Kd.C_below HR0_0.out bl) | (with_reducible refine Kd.C_alloc ?_ _) | (with_reducible refine Kd.C_drewN ?_ _) | (with_reducible refine Kd.C_drew ?_))); (case side2 => exact HC0_0.out); (case side3 => repeat (first | exact (Kd.C_below HR0_1.out bl) | (with_reducible refine Kd.C_alloc ?_ _) | (with_reducible refine Kd.C_drewN ?_ _) | (with_reducible refine Kd.C_drew ?_))); (case side4 => exact HC0_1.out); rintro e w42 ⟨v299, rfl, ho0, hb⟩; replace HO_3 := Aside0.mk (Kd.S_elder' (bS HO_3) (Kd.R_base ho0) hb); have HO300 := Aside0.mk (Kd.R_lower (Kd.R_new' (Kd.R_new' ho0 (Kd.R_lt (bR HO_4))) (Kd.R_lt (bR HO292))) (below_size bl)); replace HO_4 := Aside0.mk (Kd.R_elder' (bR HO_4) (Kd.R_base ho0) hb); replace HO292 := Aside0.mk (Kd.R_elder' (bR HO292) (Kd.R_base ho0) hb); replace BK283 := nb BK283 hb; replace HB := hs HB hb; (try clear hb); (try clear hb2); (try clear hk); (try clear hi); (try clear ho0); obtain ⟨Ao43, co43, eo43⟩ := Kd.S_slice HO_3.out; subst eo43; obtain ⟨Ao44, co44, eo44⟩ := Kd.R_slice HO300.out; subst eo44) | (go_at_call 89; (with_reducible refine (skewbaldref01_given.calls k1 _ _ t284 _ _ t298 x5_1 true _ ?side1 ?side2 ?side3 ?side4 A35.out).mono ?_); (case side1 => repeat (first | exact (Kd.S_reads' HO_3.out).2.2 | (with_reducible refine Kd.C_alloc ?_ _) | (with_reducible refine Kd.C_drewN ?_ _) | (with_reducible refine Kd.C_drew ?_))); (case side2 => exact (Kd.S_reads' HO_3.out).2.1); (case side3 => repeat (first | exact (Kd.R_reads' HO300.out).2.2 | (with_reducible refine Kd.C_alloc ?_ _) | (with_reducible refine Kd.C_drewN ?_ _) | (with_reducible refine Kd.C_drew ?_))); (case side4 => exact (Kd.R_reads' HO300.out).2.1); rintro e w' ⟨rfl, ⟨nd, rfl⟩⟩))
        go_roundg k1
        case measure => have := HK1.out; omega
        case rel => exact ⟨(t290), (wrap64 (x5_1 + 1)), sm, H', ⟨lo HK1⟩, ⟨by (with_reducible repeat (first | apply Kd.S_alloc | apply Kd.S_drewN | apply Kd.S_drew)); exact Kd.S_mono HO_3.out (fun _ hk => hk.1.2)⟩, ⟨by (with_reducible repeat (first | apply Kd.R_alloc | apply Kd.R_drewN | apply Kd.R_drew)); exact Kd.R_mono HO292.out (fun _ hk => trivial)⟩, ⟨bk⟩, ⟨bl⟩⟩
       ·replace c36 := Bool.eq_false_iff.mpr c36; subst c36
        rw [if_neg (show ¬ (false = true) by decide)] at H
        have H' := Aside0.mk H; clear H; obtain ⟨hcz45_0, hcz45_1, hfz45_0, hfz45_1⟩ := b2 (w := wr) BK283
        go_wp2_with (first | ((with_reducible refine gate_callee (f := 40) rfl ?_); refine gl (some 22) Tryd.func40 #[.int .i64 x5_1, .int .i64 (l0_1.length : Int)] ?_; (with_reducible refine (skewbaldref00_List.calls k1 x5_1 (l0_1.length : Int) t290 _ A10.out).mono ?_); rintro e w46 ⟨v291, rfl, ho0, hb⟩; refine ⟨_, rfl, ?_⟩; replace HO_3 := Aside0.mk (Kd.S_elder' (bS HO_3) (Kd.R_base ho0) hb); have HO292 := Aside0.mk (Kd.R_lower (Kd.R_new' ho0 (Kd.R_lt (bR HO_4))) (below_size bl)); replace HO_4 := Aside0.mk (Kd.R_elder' (bR HO_4) (Kd.R_base ho0) hb); replace BK283 := nb BK283 hb; replace HB := hs HB hb; (try clear hb); (try clear hb2); (try clear hk); (try clear hi); (try clear ho0); obtain ⟨Ao47, co47, eo47⟩ := Kd.R_slice HO292.out; subst eo47; obtain ⟨Ao48, co48, eo48⟩ := Kd.R_slice HO_4.out; subst eo48) | (go_at_call 44; (with_reducible refine (skewbaldref00_Less.calls k1 _ _ t290 _ _ x4_1 true _ ?side1 ?side2 ?side3 ?side4 A32.out).mono ?_); (case side1 => repeat (first | exact (Kd.R_reads' HO292.out).2.2 | (with_reducible refine Kd.C_alloc ?_ _) | (with_reducible refine Kd.C_drewN ?_ _) | (with_reducible refine Kd.C_drew ?_))); (case side2 => exact (Kd.R_reads' HO292.out).2.1); (case side3 => repeat (first | exact (Kd.R_reads' HO_4.out).2.2 | (with_reducible refine Kd.C_alloc ?_ _) | (with_reducible refine Kd.C_drewN ?_ _) | (with_reducible refine Kd.C_drew ?_))); (case side4 => exact (Kd.R_reads' HO_4.out).2.1); rintro e w' ⟨rfl, ⟨nd, rfl⟩⟩; obtain ⟨hcz49_0, hcz49_1, hfz49_0, hfz49_1⟩ := b2 (w := w46) BK283) | (go_at_call 88; (with_reducible refine (skewbaldref01_every.calls k1 _ _ l0_0 _ _ l0_1 t298 _ ?side1 ?side2 ?side3 ?side4 A34.out).mono ?_); (case side1 => repeat (first | exact (Kd.C_below HR0_0.out bl) | (with_reducible refine Kd.C_alloc ?_ _) | (with_reducible refine Kd.C_drewN ?_ _) | (with_reducible refine Kd.C_drew ?_))); (case side2 => exact HC0_0.out); (case side3 => repeat (first | exact (Kd.C_below HR0_1.out bl) | (with_reducible refine Kd.C_alloc ?_ _) | (with_reducible refine Kd.C_drewN ?_ _) | (with_reducible refine Kd.C_drew ?_))); (case side4 => exact HC0_1.out); rintro e w50 ⟨v299, rfl, ho0, hb⟩; replace HO_3 := Aside0.mk (Kd.S_elder' (bS HO_3) (Kd.R_base ho0) hb); have HO300 := Aside0.mk (Kd.R_lower (Kd.R_new' (Kd.R_new' ho0 (Kd.R_lt (bR HO_4))) (Kd.R_lt (bR HO292))) (below_size bl)); replace HO_4 := Aside0.mk (Kd.R_elder' (bR HO_4) (Kd.R_base ho0) hb); replace HO292 := Aside0.mk (Kd.R_elder' (bR HO292) (Kd.R_base ho0) hb); replace BK283 := nb BK283 hb; replace HB := hs HB hb; (try clear hb); (try clear hb2); (try clear hk); (try clear hi); (try clear ho0); obtain ⟨Ao51, co51, eo51⟩ := Kd.S_slice HO_3.out; subst eo51; obtain ⟨Ao52, co52, eo52⟩ := Kd.R_slice HO300.out; subst eo52) | (go_at_call 89; (with_reducible refine (skewbaldref01_given.calls k1 _ _ t284 _ _ t298 x5_1 false _ ?side1 ?side2 ?side3 ?side4 A35.out).mono ?_); (case side1 => repeat (first | exact (Kd.S_reads' HO_3.out).2.2 | (with_reducible refine Kd.C_alloc ?_ _) | (with_reducible refine Kd.C_drewN ?_ _) | (with_reducible refine Kd.C_drew ?_))); (case side2 => exact (Kd.S_reads' HO_3.out).2.1); (case side3 => repeat (first | exact (Kd.R_reads' HO300.out).2.2 | (with_reducible refine Kd.C_alloc ?_ _) | (with_reducible refine Kd.C_drewN ?_ _) | (with_reducible refine Kd.C_drew ?_))); (case side4 => exact (Kd.R_reads' HO300.out).2.1); rintro e w' ⟨rfl, ⟨nd, rfl⟩⟩))
        go_roundg k1
        case measure => have := HK1.out; omega
        case rel => exact ⟨(x4_1), (wrap64 (x5_1 + 1)), sm, H', ⟨lo HK1⟩, ⟨by (with_reducible repeat (first | apply Kd.S_alloc | apply Kd.S_drewN | apply Kd.S_drew)); exact Kd.S_mono HO_3.out (fun _ hk => hk.1.1)⟩, ⟨by (with_reducible repeat (first | apply Kd.R_alloc | apply Kd.R_drewN | apply Kd.R_drew)); exact Kd.R_mono HO_4.out (fun _ hk => trivial)⟩, ⟨bk⟩, ⟨bl⟩⟩
      ·replace c33 := Bool.eq_false_iff.mpr c33; subst c33
       rw [if_neg (show ¬ (false = true) by decide)] at H
       have H' := Aside0.mk H; clear H; obtain ⟨hcz53_0, hcz53_1, hfz53_0, hfz53_1⟩ := b2 (w := wr) BK283
       go_wp2_with (first | ((with_reducible refine gate_callee (f := 40) rfl ?_); refine gl (some 22) Tryd.func40 #[.int .i64 x5_1, .int .i64 (l0_1.length : Int)] ?_; (with_reducible refine (skewbaldref00_List.calls k1 x5_1 (l0_1.length : Int) t290 _ A10.out).mono ?_); rintro e w54 ⟨v291, rfl, ho0, hb⟩; refine ⟨_, rfl, ?_⟩; replace HO_3 := Aside0.mk (Kd.S_elder' (bS HO_3) (Kd.R_base ho0) hb); have HO292 := Aside0.mk (Kd.R_lower (Kd.R_new' ho0 (Kd.R_lt (bR HO_4))) (below_size bl)); replace HO_4 := Aside0.mk (Kd.R_elder' (bR HO_4) (Kd.R_base ho0) hb); replace BK283 := nb BK283 hb; replace HB := hs HB hb; (try clear hb); (try clear hb2); (try clear hk); (try clear hi); (try clear ho0); obtain ⟨Ao55, co55, eo55⟩ := Kd.R_slice HO292.out; subst eo55; obtain ⟨Ao56, co56, eo56⟩ := Kd.R_slice HO_4.out; subst eo56) | (go_at_call 44; (with_reducible refine (skewbaldref00_Less.calls k1 _ _ t290 _ _ x4_1 false _ ?side1 ?side2 ?side3 ?side4 A32.out).mono ?_); (case side1 => repeat (first | exact (Kd.R_reads' HO292.out).2.2 | (with_reducible refine Kd.C_alloc ?_ _) | (with_reducible refine Kd.C_drewN ?_ _) | (with_reducible refine Kd.C_drew ?_))); (case side2 => exact (Kd.R_reads' HO292.out).2.1); (case side3 => repeat (first | exact (Kd.R_reads' HO_4.out).2.2 | (with_reducible refine Kd.C_alloc ?_ _) | (with_reducible refine Kd.C_drewN ?_ _) | (with_reducible refine Kd.C_drew ?_))); (case side4 => exact (Kd.R_reads' HO_4.out).2.1); rintro e w' ⟨rfl, ⟨nd, rfl⟩⟩))
       go_roundg k1
       case measure => have := HK1.out; omega
       case rel => exact ⟨(x4_1), (wrap64 (x5_1 + 1)), sm, H', ⟨lo HK1⟩, ⟨by (with_reducible repeat (first | apply Kd.S_alloc | apply Kd.S_drewN | apply Kd.S_drew)); exact Kd.S_mono HO_3.out (fun _ hk => hk.1)⟩, ⟨by (with_reducible repeat (first | apply Kd.R_alloc | apply Kd.R_drewN | apply Kd.R_drew)); exact Kd.R_mono HO_4.out (fun _ hk => trivial)⟩, ⟨bk⟩, ⟨bl⟩⟩
     ·rw [if_neg c31] at H
      have c31b0 : ((t290.length : Int) == (x4_1.length : Int)) = false := beq_eq_false_iff_ne.mpr c31
      have c31b1 : ((t290.length : Int) != (x4_1.length : Int)) = true := bne_iff_ne.mpr c31
      have c31b2 : (t290.length == x4_1.length) = false := by first | simpa using c31 | (simp at c31 ⊢; omega)
      have H' := Aside0.mk H; clear H; obtain ⟨hcz57_0, hcz57_1, hfz57_0, hfz57_1⟩ := b2 (w := wr) BK283
      go_wp2_with (first | ((with_reducible refine gate_callee (f := 40) rfl ?_); refine gl (some 22) Tryd.func40 #[.int .i64 x5_1, .int .i64 (l0_1.length : Int)] ?_; (with_reducible refine (skewbaldref00_List.calls k1 x5_1 (l0_1.length : Int) t290 _ A10.out).mono ?_); rintro e w58 ⟨v291, rfl, ho0, hb⟩; refine ⟨_, rfl, ?_⟩; replace HO_3 := Aside0.mk (Kd.S_elder' (bS HO_3) (Kd.R_base ho0) hb); have HO292 := Aside0.mk (Kd.R_lower (Kd.R_new' ho0 (Kd.R_lt (bR HO_4))) (below_size bl)); replace HO_4 := Aside0.mk (Kd.R_elder' (bR HO_4) (Kd.R_base ho0) hb); replace BK283 := nb BK283 hb; replace HB := hs HB hb; (try clear hb); (try clear hb2); (try clear hk); (try clear hi); (try clear ho0); obtain ⟨Ao59, co59, eo59⟩ := Kd.R_slice HO292.out; subst eo59; obtain ⟨Ao60, co60, eo60⟩ := Kd.R_slice HO_4.out; subst eo60))
      go_roundg k1
      case measure => have := HK1.out; omega
      case rel => exact ⟨(x4_1), (wrap64 (x5_1 + 1)), sm, H', ⟨lo HK1⟩, ⟨by (with_reducible repeat (first | apply Kd.S_alloc | apply Kd.S_drewN | apply Kd.S_drew)); exact Kd.S_mono HO_3.out (fun _ hk => hk.1)⟩, ⟨by (with_reducible repeat (first | apply Kd.R_alloc | apply Kd.R_drewN | apply Kd.R_drew)); exact Kd.R_mono HO_4.out (fun _ hk => trivial)⟩, ⟨bk⟩, ⟨bl⟩⟩
   ·rw [if_neg c9] at H
    have c9b0 : decide (x5_1 < (ji8)) = false := decide_eq_false c9
    clear c9; obtain rfl := Option.some.inj H; obtain ⟨hcz61_0, hcz61_1, hfz61_0, hfz61_1⟩ := b2 (w := wr) BK283
    go_wp2
    go_ret
    exact ⟨_, by first | rfl | (simp [errW_none, errW_some] <;> rfl) | (simp only [← hji8]; first | rfl | (simp [errW_none, errW_some] <;> rfl)) | (simp [*, errW_none, errW_some] <;> rfl), by (with_reducible repeat (first | apply Kd.R_alloc | apply Kd.R_drewN | apply Kd.R_drew)); exact HO_4.out, bl⟩
def skewbaldref00_Set.l0 : Nat → List Int → Int → Int → Option (Int)
 | 0, _, _, _ => none
 | k + 1, x0, x3, x4 => if x4 < (x0.length : Int) then (if 0 ≤ x4 then (if 0 ≤ (rd x0 x4) then (skewbaldref00_Set.l0 k x0 (Go.bits .or .i64 x3 (shl .i64 1 (rd x0 x4))) (wrap64 (x4 + 1))) else (none)) else (none)) else (some x3)
def skewbaldref00_Set.f (k : Nat) (l0 : List Int) : Option (Int) := skewbaldref00_Set.l0 k l0 0 0
theorem skewbaldref00_Set.mono_l : ∀ k, (∀ y0 y1 y2, LeO (skewbaldref00_Set.l0 k y0 y1 y2) (skewbaldref00_Set.l0 (k + 1) y0 y1 y2))
 | 0 => fun _ _ _ r h => by simp [skewbaldref00_Set.l0] at h
 | k + 1 => by
  have ih0 := skewbaldref00_Set.mono_l k
  ·intro y0 y1 y2
   unfold skewbaldref00_Set.l0
   repeat' first
   | (with_reducible exact ih0 _ _ _)
   | (with_reducible exact LeO.refl _)
   | (with_reducible exact LeO.none _)
   | (with_reducible refine LeO.ite ?_ ?_)
   | (with_reducible refine LeO.bind ?_ (fun _ => ?_))
   | exact ih0 _ _ _
   | exact LeO.none _
   | refine LeO.ite ?_ ?_
   | refine LeO.bind ?_ (fun _ => ?_)
theorem skewbaldref00_Set.mono : ∀ a0 k, LeO (skewbaldref00_Set.f k a0) (skewbaldref00_Set.f (k + 1) a0) := by
 intro a0 k
 have ih0 := skewbaldref00_Set.mono_l k
 unfold skewbaldref00_Set.f
 repeat' first
   | (with_reducible exact ih0 _ _ _)
   | (with_reducible exact LeO.refl _)
   | (with_reducible exact LeO.none _)
   | (with_reducible refine LeO.ite ?_ ?_)
   | (with_reducible refine LeO.bind ?_ (fun _ => ?_))
   | exact ih0 _ _ _
   | exact LeO.none _
   | refine LeO.ite ?_ ?_
   | refine LeO.bind ?_ (fun _ => ?_)
set_option maxHeartbeats 8000000 in
set_option maxRecDepth 100000 in
theorem skewbaldref00_Set.calls (k : Nat) (A0 : Option Addr) (c0 : Nat) (l0 : List Int) (r : Int) (w : World) (hr0 : Kd.C (Kd.int .i64) w A0 l0.length l0) (hc0 : l0.length ≤ c0) (h : skewbaldref00_Set.f k l0 = some r) :
  Calls Tryd.prog 49 #[.slice A0 l0.length c0] w fun e w' => e = .returned (.int .i64 r) ∧ Drawn0 w w' := by
 have HR0 := Aside0.mk hr0; have HC0 := Aside0.mk hc0; clear hr0 hc0
 have H : (skewbaldref00_Set.l0 k l0 0 0) = some r := h
 clear h; have H' := Aside0.mk H; clear H
 go_enter Tryd.func49, Tryd.ntmps49
 go_wp2
 go_loopg [3, 4] k (fun kq v3 v4 w' => ∃ (x3_1 : Int) (x4_1 : Int), v3 = .int .i64 x3_1 ∧ v4 = .int .i64 x4_1 ∧ Aside0 (skewbaldref00_Set.l0 kq l0 x3_1 x4_1 = some r) ∧ Aside0 (kq ≤ k) ∧ Drawn0 w w')
 case atStart => exact ⟨(0), (0), sm, sm, H', ⟨Nat.le_refl _⟩, by repeat (first | exact Drawn0.refl _ | apply Drawn0.step)⟩
 case round =>
  clear H'; obtain ⟨x3_1, x4_1, rfl, rfl, HA, HK1, ⟨m1, rfl⟩⟩ := hrel
  cases gk with
  | zero => exact absurd HA.out (by simp [skewbaldref00_Set.l0])
  | succ k1 =>
   have H := HA.out; clear HA
   simp only [skewbaldref00_Set.l0] at H
   by_cases c2 : x4_1 < (l0.length : Int)
   ·rw [if_pos c2] at H; have c2b0 := decide_eq_true c2; clear c2
    by_cases c3 : 0 ≤ x4_1
    ·rw [if_pos c3] at H; have c3b0 := decide_eq_true c3; clear c3
     by_cases c4 : 0 ≤ (rd l0 x4_1)
     ·rw [if_pos c4] at H; have c4b0 := eq_true c4; have c4b1 := decide_eq_true c4; clear c4
      obtain ⟨ji5, hji5⟩ : ∃ j_ : Int, (shl .i64 1 (rd l0 x4_1)) = j_ := ⟨_, rfl⟩
      replace H : (skewbaldref00_Set.l0 k1 l0 (Go.bits .or .i64 x3_1 (ji5)) (wrap64 (x4_1 + 1))) = some r := by first | (rw [hji5] at H; exact H) | (simp only [hji5] at H ⊢; exact H)
      have hji5_ : (IntKind.i64.wrap (1 * 2 ^ min (rd l0 x4_1).toNat 64)) = ji5 := hji5
      have hji5z : (rd l0 x4_1) ≤ 64 → (IntKind.i64.wrap (1 * 2 ^ (rd l0 x4_1).toNat)) = ji5 := shl_small hji5
      have hji5u : (IntKind.i64.wrap (2 ^ min (rd l0 x4_1).toNat 64)) = ji5 := by have h_ := hji5_; rw [Int.one_mul] at h_; exact h_
      have hji5v : (rd l0 x4_1) ≤ 64 → (IntKind.i64.wrap (2 ^ (rd l0 x4_1).toNat)) = ji5 := fun hle_ => by have h_ := hji5z hle_; rw [Int.one_mul] at h_; exact h_
      have hji5y : (wrap64 (1 * 2 ^ min (rd l0 x4_1).toNat 64)) = ji5 := (i64_w _).symm.trans hji5_
      have hji5x : (rd l0 x4_1) ≤ 64 → (wrap64 (1 * 2 ^ (rd l0 x4_1).toNat)) = ji5 := fun h_ => (i64_w _).symm.trans (hji5z h_)
      have hji5A : (wrap64 (2 ^ min (rd l0 x4_1).toNat 64)) = ji5 := (i64_w _).symm.trans hji5u
      have hji5B : (rd l0 x4_1) ≤ 64 → (wrap64 (2 ^ (rd l0 x4_1).toNat)) = ji5 := fun h_ => (i64_w _).symm.trans (hji5v h_)
      have H' := Aside0.mk H; clear H
      have p569 : 0 ≤ (x4_1 : Int) := od
      have q569 : x4_1 < (l0.length : Int) := od
      obtain ⟨ad569, e569, hx569_0⟩ := Kd.at_int HR0.out x4_1 p569 q569
      cases e569
      replace p569 := eq_true p569; replace q569 := eq_true q569
      go_wp2
      go_roundg k1
      case measure => have := HK1.out; omega
      case rel => exact ⟨(Go.bits .or .i64 x3_1 (ji5)), (wrap64 (x4_1 + 1)), (by first | rfl | (simp; done) | (simp only [← hji5] <;> (first | rfl | simp)) | (simp [*]; done)), sm, H', ⟨lo HK1⟩, by repeat (first | exact Drawn0.refl _ | apply Drawn0.step)⟩
     ·rw [if_neg c4] at H
      exact absurd H (by simp)
    ·rw [if_neg c3] at H
     exact absurd H (by simp)
   ·rw [if_neg c2] at H
    have c2b0 : decide (x4_1 < (l0.length : Int)) = false := decide_eq_false c2
    clear c2; obtain rfl := Option.some.inj H
    go_wp2
    go_ret
    exact ⟨sm, by repeat (first | exact Drawn0.refl _ | apply Drawn0.step)⟩
end Go.Proofs.YtekjlpldooihhaaDoor.PT
