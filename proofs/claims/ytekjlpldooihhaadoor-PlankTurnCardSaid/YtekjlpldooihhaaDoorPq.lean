/- Package plank: rows of planks and of knots that are copied. -/
import Derived.Test.YtekjlpldooihhaaDoorWNEv
import Derived.Test.YtekjlpldooihhaaDoorPh
import Derived.Test.YtekjlpldooihhaaDoorHa
import Derived.Lib.SliceRun
namespace Go.Proofs.YtekjlpldooihhaaDoorP
open Go.Proofs.YtekjlpldooihhaaDoorSh
open Go.RowKit Go.Proofs.YtekjlpldooihhaaDoorW.PrintWords Go.Proofs.YtekjlpldooihhaaDoorW.PrintLast Go.Proofs.YtekjlpldooihhaaDoorW.PrintMore Go.Proofs.YtekjlpldooihhaaDoorH Go.Proofs.YtekjlpldooihhaaDoorEv Go.Proofs.YtekjlpldooihhaaDoor.PA
set_option linter.unusedVariables false
set_option linter.unusedSimpArgs false
theorem bk_cut {PA : Option Addr} {pc : Nat} {QA : Option Addr} {qc m : Nat} {P : List S48} {Q : List S50} (hok : Ok P Q) (t : Nat) (ht : t < 2 ^ P.length) (s : Nat) (hs : s < 2 ^ Q.length) (A : Option Addr) (c : Nat) (w : World) (hB : Bk PA QA m P Q w) (hC : Kd.C (Kd.int .i64) w A (ints (setL t)).length (ints (setL t))) (hc : (ints (setL t)).length ≤ c) :
    Calls Tryd.prog 84 #[.agg #[.slice PA P.length pc, .slice QA Q.length qc, .map (some m)], .int .i64 s, .slice A (ints (setL t)).length c] w fun e w' => e = .returned (.bool (cutB P Q (setL t) s)) ∧ Bk PA QA m P Q w' ∧ w.grownBy w' (some m) := by
  rw [ints_length] at hc ⊢
  exact calls_cut PA pc QA qc m P Q hok (setL t) (fun p hp => setL_lt ht hp) s hs A c w hB hC hc
def InvA (PA : Option Addr) (pc : Nat) (QA : Option Addr) (qc m : Nat) (P : List S48) (Q : List S50) (g : Nat) (W : World) : Prop :=
  Bk PA QA m P Q W ∧ W.heap[g]? = some (.cells #[.slice PA P.length pc, .slice QA Q.length qc, .map (some m)] 84 (0, 0))
theorem InvA.bk {PA : Option Addr} {pc : Nat} {QA : Option Addr} {qc m : Nat} {P : List S48} {Q : List S50} {g : Nat} {W : World} (h : InvA PA pc QA qc m P Q g W) : Bk PA QA m P Q W := h.1
theorem InvA.below {PA : Option Addr} {pc : Nat} {QA : Option Addr} {qc m : Nat} {P : List S48} {Q : List S50} {g : Nat} {W W1 : World} (h : InvA PA pc QA qc m P Q g W) (hb : Below W.heap.size W W1) : InvA PA pc QA qc m P Q g W1 :=
  ⟨h.1.below hb, below_far h.2 hb⟩
set_option maxRecDepth 100000 in
theorem calls_Fewest1 (PA : Option Addr) (pc : Nat) (QA : Option Addr) (qc m : Nat) (P : List S48) (Q : List S50) (hok : Ok P Q) (g : Nat) (s : Nat) (hs : s < 2 ^ P.length) (w : World) (hI : InvA PA pc QA qc m P Q g w) :
    Calls Tryd.prog 83 #[.int .i64 s, .pointer (some ⟨g, 0, none⟩)] w fun e w' => e = .returned (.bool (cutB P Q (setL s) (2 ^ Q.length - 1))) ∧ InvA PA pc QA qc m P Q g w' ∧ w.grownBy w' (some m) := by
  have hs32 : s < 32 := Nat.lt_of_lt_of_le hs (pow_small _ (by have := hok.p3; omega)).2
  have hcp := fun W => calls_parts PA P.length pc QA Q.length qc m hok.q5 W
  have hcc := fun A c W hB hC hc => bk_cut (pc := pc) (qc := qc) (PA := PA) (QA := QA) (m := m) hok s hs (2 ^ Q.length - 1) (by have := pow_small _ hok.q5; omega) A c W hB hC hc
  obtain ⟨q, hq⟩ : ∃ q : Nat, 2 ^ Q.length - 1 = q := ⟨_, rfl⟩
  rw [hq] at hcp hcc ⊢
  clear hq
  have HCP := Lib.hid hcp; have HCC := Lib.hid hcc; have HI := Lib.hid hI
  clear hcp hcc hI
  obtain ⟨b0, b1, b2⟩ : w.cell? ⟨g, 0, none⟩ = some (.slice PA P.length pc) ∧ w.cell? ⟨g, 1, none⟩ = some (.slice QA Q.length qc) ∧ w.cell? ⟨g, 2, none⟩ = some (.map (some m)) := ⟨blk_cell HI.out.2 0, blk_cell HI.out.2 1, blk_cell HI.out.2 2⟩
  go_enter Tryd.func83, Tryd.ntmps83
  go_wp2_with fail
  refine start_ (n := 7) (S := fun w' => w'.cell? ⟨g, 0, none⟩ = some (.slice PA P.length pc) ∧ w'.cell? ⟨g, 1, none⟩ = some (.slice QA Q.length qc) ∧ w'.cell? ⟨g, 2, none⟩ = some (.map (some m))) (ds := [5]) #[false, false, false, false, false, false, false] (by kernel_rfl) rfl rfl ⟨b0, b1, b2⟩ (fun hHeld => ?_)
  refine pu_ (i := 3) (N := some 7) (qa_ 7 8) ?_
  refine tk_ (i := 0) (N := some 4) (qa_ 7 9) hHeld ?_
  refine tk_ (i := 1) (N := some 5) (qa_ 7 11) hHeld ?_
  refine on_ (i := 2) (N := some 6) (qa_ 7 15) (fun K hK => ?_)
  refine goes_ Tryd.func85 (by kernel_rfl) rfl #[.agg #[.slice PA P.length pc, .slice QA Q.length qc, .map (some m)]] (by rfl) rfl rfl (by first | (simp; done) | (simp only [List.map_toArray, List.map_cons, List.map_nil]; rfl)) ?_
  with_reducible refine (HCP.out _).mono ?_
  rintro e w1 ⟨rfl, hb1⟩
  have hb2 : Below w.heap.size w w1 := undrew hb1
  refine ⟨_, rfl, ?_⟩
  refine hK.out _ _ ⟨pw_cell_below hb2 b0, pw_cell_below hb2 b1, pw_cell_below hb2 b2⟩ (fun hHeld => ?_)
  clear hK K
  refine nm_ (some 6) ?_
  refine on_ (i := 4) (N := some 8) (qa_ 7 31) (fun K hK => ?_)
  refine goes_ Tryd.func86 (by kernel_rfl) rfl #[.int .i64 s] (by rfl) rfl rfl (by first | (simp; done) | (simp only [List.map_toArray, List.map_cons, List.map_nil]; rfl)) ?_
  with_reducible refine (calls_listed s hs32 _).mono ?_
  rintro e w2 ⟨v2, rfl, hv2, hb3⟩
  have hb4 : Below w.heap.size w w2 := hb2.trans (hb3.mono (below_size hb2))
  obtain ⟨A2, c2, rfl, hl2, hC2, -⟩ := hv2
  refine ⟨_, rfl, ?_⟩
  refine hK.out _ _ ⟨pw_cell_below hb4 b0, pw_cell_below hb4 b1, pw_cell_below hb4 b2⟩ (fun hHeld => ?_)
  clear hK K
  refine nm_ (some 8) ?_
  refine last_ (i := 5) (N := some 9) (qa_ 7 63) rfl rfl (by kernel_rfl) (by decide) (fun K hK => ?_)
  refine goes_ Tryd.func84 (by kernel_rfl) rfl #[.agg #[.slice PA P.length pc, .slice QA Q.length qc, .map (some m)], .int .i64 q, .slice A2 (ints (setL s)).length c2] (by rfl) rfl rfl (by first | (simp; done) | (simp only [List.map_toArray, List.map_cons, List.map_nil]; rfl)) ?_
  with_reducible refine (HCC.out A2 c2 w2 (HI.out.bk.below hb4) hC2 hl2).mono ?_
  rintro e w3 ⟨rfl, hbk3, hg3⟩
  refine ⟨_, rfl, ?_⟩
  refine hK.out _ _ ?_
  clear hK K
  refine nm_ (some 9) ?_
  refine pu_ (i := 6) (N := some 3) (qa_ 7 127) ?_
  refine done_ (by kernel_rfl) ?_
  clear hHeld
  go_wp2_with fail
  go_ret
  have hbb := HI.out.below hb4
  exact ⟨rfl, ⟨hbk3, blk_grownM hbb.2 hbb.1.is hg3⟩, grown_trans (grown_of_below hb4 _) hg3⟩
theorem asks_Fewest1 {PA : Option Addr} {pc : Nat} {QA : Option Addr} {qc m : Nat} {P : List S48} {Q : List S50} (hok : Ok P Q) (g : Nat) :
    Asks 83 #[.pointer (some ⟨g, 0, none⟩)] m (2 ^ P.length) (fun s => cutB P Q (setL s) (2 ^ Q.length - 1)) (InvA PA pc QA qc m P Q g) :=
  ⟨fun s hs w hI => calls_Fewest1 PA pc QA qc m P Q hok g s hs w hI, ⟨_, Tryd.func83, by kernel_rfl, rfl⟩, fun W W' h hb => h.below hb, fun W h => h.1.is⟩
def InvB (PA : Option Addr) (pc : Nat) (QA : Option Addr) (qc m : Nat) (P : List S48) (Q : List S50) (g k : Nat) (W : World) : Prop :=
  Bk PA QA m P Q W ∧ W.heap[g]? = some (.cells #[.slice PA P.length pc, .slice QA Q.length qc, .map (some m)] 84 (0, 0)) ∧ W.heap[k]? = some (.cells #[.func (.func 84) #[.agg #[.slice PA P.length pc, .slice QA Q.length qc, .map (some m)]] #[]] 109 (0, 0))
theorem InvB.bk {PA : Option Addr} {pc : Nat} {QA : Option Addr} {qc m : Nat} {P : List S48} {Q : List S50} {g k : Nat} {W : World} (h : InvB PA pc QA qc m P Q g k W) : Bk PA QA m P Q W := h.1
theorem InvB.below {PA : Option Addr} {pc : Nat} {QA : Option Addr} {qc m : Nat} {P : List S48} {Q : List S50} {g k : Nat} {W W1 : World} (h : InvB PA pc QA qc m P Q g k W) (hb : Below W.heap.size W W1) : InvB PA pc QA qc m P Q g k W1 :=
  ⟨h.1.below hb, below_far h.2.1 hb, below_far h.2.2 hb⟩
set_option maxRecDepth 100000 in
theorem calls_most1 (PA : Option Addr) (pc : Nat) (QA : Option Addr) (qc m : Nat) (P : List S48) (Q : List S50) (hok : Ok P Q) (g k : Nat) (s : Nat) (hs : s < 2 ^ Q.length) (w : World) (hI : InvB PA pc QA qc m P Q g k w) :
    Calls Tryd.prog 108 #[.int .i64 s, .pointer (some ⟨k, 0, none⟩), .pointer (some ⟨g, 0, none⟩)] w fun e w' => e = .returned (.bool (cutB P Q (setL (2 ^ P.length - 1)) s)) ∧ InvB PA pc QA qc m P Q g k w' ∧ w.grownBy w' (some m) := by
  have hp5 : P.length ≤ 5 := by have := hok.p3; omega
  have hcp := fun W => calls_planks PA P.length pc QA Q.length qc m hp5 W
  have hcc := fun A c W hB hC hc => bk_cut (pc := pc) (qc := qc) (PA := PA) (QA := QA) (m := m) hok (2 ^ P.length - 1) (by have := pow_small _ hp5; omega) s hs A c W hB hC hc
  obtain ⟨q, hq⟩ : ∃ q : Nat, 2 ^ P.length - 1 = q := ⟨_, rfl⟩
  rw [hq] at hcp hcc ⊢
  clear hq
  have HCP := Lib.hid hcp; have HCC := Lib.hid hcc; have HI := Lib.hid hI
  clear hcp hcc hI
  obtain ⟨b0, b1, b2⟩ : w.cell? ⟨g, 0, none⟩ = some (.slice PA P.length pc) ∧ w.cell? ⟨g, 1, none⟩ = some (.slice QA Q.length qc) ∧ w.cell? ⟨g, 2, none⟩ = some (.map (some m)) := ⟨blk_cell HI.out.2.1 0, blk_cell HI.out.2.1 1, blk_cell HI.out.2.1 2⟩
  have b3 : w.cell? ⟨k, 0, none⟩ = some (.func (.func 84) #[.agg #[.slice PA P.length pc, .slice QA Q.length qc, .map (some m)]] #[]) := blk_cell HI.out.2.2 0
  have hfn0 := Tryd.func84
  go_enter Tryd.func108, Tryd.ntmps108
  go_wp2_with fail
  refine start_ (n := 6) (S := fun w' => w'.cell? ⟨g, 0, none⟩ = some (.slice PA P.length pc) ∧ w'.cell? ⟨g, 1, none⟩ = some (.slice QA Q.length qc) ∧ w'.cell? ⟨g, 2, none⟩ = some (.map (some m)) ∧ w'.cell? ⟨k, 0, none⟩ = some (.func (.func 84) #[.agg #[.slice PA P.length pc, .slice QA Q.length qc, .map (some m)]] #[])) (ds := [4]) #[false, false, false, false, false, false] (by kernel_rfl) rfl rfl ⟨b0, b1, b2, b3⟩ (fun hHeld => ?_)
  refine pu_ (i := 1) (N := some 6) (qa_ 6 2) ?_
  refine tk_ (i := 0) (N := some 5) (qa_ 6 3) hHeld ?_
  refine tk_ (i := 2) (N := some 7) (qa_ 6 7) hHeld ?_
  refine on_ (i := 3) (N := some 8) (qa_ 6 15) (fun K hK => ?_)
  refine goes_ Tryd.func90 (by kernel_rfl) rfl #[.agg #[.slice PA P.length pc, .slice QA Q.length qc, .map (some m)]] (by rfl) rfl rfl (by first | (simp; done) | (simp only [List.map_toArray, List.map_cons, List.map_nil]; rfl)) ?_
  with_reducible refine (HCP.out _).mono ?_
  rintro e w2 ⟨v2, rfl, hv2, hb3⟩
  have hb4 : Below w.heap.size w w2 := undrew hb3
  obtain ⟨A2, c2, rfl, hl2, hC2, -⟩ := hv2
  refine ⟨_, rfl, ?_⟩
  refine hK.out _ _ ⟨pw_cell_below hb4 b0, pw_cell_below hb4 b1, pw_cell_below hb4 b2, pw_cell_below hb4 b3⟩ (fun hHeld => ?_)
  clear hK K
  refine nm_ (some 8) ?_
  refine last_ (i := 4) (N := some 9) (qa_ 6 31) rfl rfl (by kernel_rfl) (by decide) (fun K hK => ?_)
  refine goesV_ hfn0 (by kernel_rfl) rfl #[.agg #[.slice PA P.length pc, .slice QA Q.length qc, .map (some m)], .int .i64 s, .slice A2 (ints (setL q)).length c2] (by rfl) rfl rfl rfl (by (try simp only [Array.empty_append, Array.append_empty, List.map_toArray, List.map_cons, List.map_nil, List.append_toArray, List.nil_append, List.append_nil, List.cons_append]); rfl) ?_
  with_reducible refine (HCC.out A2 c2 w2 (HI.out.bk.below hb4) hC2 hl2).mono ?_
  rintro e w3 ⟨rfl, hbk3, hg3⟩
  refine ⟨_, rfl, ?_⟩
  refine hK.out _ _ ?_
  clear hK K
  refine nm_ (some 9) ?_
  refine pu_ (i := 5) (N := some 4) (qa_ 6 63) ?_
  refine done_ (by kernel_rfl) ?_
  clear hHeld
  go_wp2_with fail
  go_ret
  have hbb := HI.out.below hb4
  exact ⟨rfl, ⟨hbk3, blk_grownM hbb.2.1 hbb.1.is hg3, blk_grownM hbb.2.2 hbb.1.is hg3⟩, grown_trans (grown_of_below hb4 _) hg3⟩
theorem asks_most1 {PA : Option Addr} {pc : Nat} {QA : Option Addr} {qc m : Nat} {P : List S48} {Q : List S50} (hok : Ok P Q) (g k : Nat) :
    Asks 108 #[.pointer (some ⟨k, 0, none⟩), .pointer (some ⟨g, 0, none⟩)] m (2 ^ Q.length) (fun s => cutB P Q (setL (2 ^ P.length - 1)) s) (InvB PA pc QA qc m P Q g k) :=
  ⟨fun s hs w hI => calls_most1 PA pc QA qc m P Q hok g k s hs w hI, ⟨_, Tryd.func108, by kernel_rfl, rfl⟩, fun W W' h hb => h.below hb, fun W h => h.1.is⟩
def mostN (P : List S48) (Q : List S50) : List Nat := (bestTo moreL (fun s => cutB P Q (setL (2 ^ P.length - 1)) s) (2 ^ Q.length)).2
set_option maxRecDepth 100000 in
theorem calls_most (PA : Option Addr) (pc : Nat) (QA : Option Addr) (qc m : Nat) (P : List S48) (Q : List S50) (hok : Ok P Q) (w : World) (hB : Bk PA QA m P Q w) :
    Calls Tryd.prog 79 #[.agg #[.slice PA P.length pc, .slice QA Q.length qc, .map (some m)]] w fun e w' => ∃ v, e = .returned v ∧ VI w.heap.size w' v (ints (mostN P Q)) ∧ Bk PA QA m P Q w' ∧ w.grownBy w' (some m) := by
  obtain ⟨n0, n1, n2, n3⟩ := new2 w (.cells #[.slice PA P.length pc, .slice QA Q.length qc, .map (some m)] 84) (.cells #[.func (.func 84) #[.agg #[.slice PA P.length pc, .slice QA Q.length qc, .map (some m)]] #[]] 109)
  have hmw := hB.lt
  have HI := Lib.hid (show InvB PA pc QA qc m P Q w.heap.size (w.heap.size + 1) ((w.alloc (.cells #[.slice PA P.length pc, .slice QA Q.length qc, .map (some m)] 84)).alloc (.cells #[.func (.func 84) #[.agg #[.slice PA P.length pc, .slice QA Q.length qc, .map (some m)]] #[]] 109)) from ⟨hB.below n2, n0, n1⟩)
  have HN := Lib.hid n2
  clear n0 n1 n2 n3 hB
  go_enter Tryd.func79, Tryd.ntmps79
  go_wp2_with fail
  generalize (w.alloc (.cells #[.slice PA P.length pc, .slice QA Q.length qc, .map (some m)] 84)).alloc (.cells #[.func (.func 84) #[.agg #[.slice PA P.length pc, .slice QA Q.length qc, .map (some m)]] #[]] 109) = W at HI HN ⊢
  have c0 : W.cell? ⟨w.heap.size, 1, none⟩ = some (.slice QA Q.length qc) := blk_cell HI.out.2.1 1
  have HCB := Lib.hid (fun W' hI hm => calls_best 113 moreL better_many 108 #[.pointer (some ⟨w.heap.size + 1, 0, none⟩), .pointer (some ⟨w.heap.size, 0, none⟩)] m Q.length hok.q5 _ _ (asks_most1 (PA := PA) (pc := pc) (QA := QA) (qc := qc) hok w.heap.size (w.heap.size + 1)) W' hI hm)
  refine start_ (n := 12) (S := fun w' => w'.cell? ⟨w.heap.size, 1, none⟩ = some (.slice QA Q.length qc)) (ds := [6]) #[false, false, false, false, false, false, false, false, false, false, false, false] (by kernel_rfl) rfl rfl (c0) (fun hHeld => ?_)
  refine pu_ (i := 1) (N := some 10) (qa_ 12 2) ?_
  refine pu_ (i := 2) (N := some 11) (qa_ 12 6) ?_
  refine pu_ (i := 5) (N := some 14) (qa_ 12 38) ?_
  refine tk_ (i := 3) (N := some 12) (qa_ 12 46) hHeld ?_
  refine pu_ (i := 4) (N := some 13) (qa_ 12 62) ?_
  refine on_ (i := 0) (N := some 9) (qa_ 12 63) (fun K hK => ?_)
  refine goes_ Tryd.func107 (by kernel_rfl) rfl #[] (by rfl) rfl rfl (by first | (simp; done) | (simp only [List.map_toArray, List.map_cons, List.map_nil]; rfl)) ?_
  with_reducible refine (calls_many _).mono ?_
  rintro e w1 ⟨rfl, hb1⟩
  have hb2 : Below W.heap.size W w1 := undrew hb1
  refine ⟨_, rfl, ?_⟩
  refine hK.out _ _ (pw_cell_below hb2 c0) (fun hHeld => ?_)
  clear hK K
  refine nm_ (some 9) ?_
  refine last_ (i := 6) (N := some 15) (qa_ 12 127) rfl rfl (by kernel_rfl) (by decide) (fun K hK => ?_)
  refine goes_ Tryd.func82 (by kernel_rfl) rfl #[.agg #[.func (.func 113) #[] #[]], .int .i64 Q.length, .func (.func 108) #[] #[.pointer (some ⟨w.heap.size + 1, 0, none⟩), .pointer (some ⟨w.heap.size, 0, none⟩)]] (by rfl) rfl rfl (by first | (simp; done) | (simp only [List.map_toArray, List.map_cons, List.map_nil]; rfl)) ?_
  with_reducible refine (HCB.out w1 (HI.out.below hb2) (Nat.lt_of_lt_of_le hmw (below_size (HN.out.trans (hb2.mono (below_size HN.out)))))).mono ?_
  rintro e w2 ⟨v2, rfl, hv2, hi2, hg2⟩
  refine ⟨_, rfl, ?_⟩
  refine hK.out _ _ ?_
  clear hK K
  refine nm_ (some 15) ?_
  refine pu_ (i := 7) (N := some 8) (qa_ 12 255) ?_
  refine pu_ (i := 8) (N := some 16) (qa_ 12 511) ?_
  refine pu_ (i := 9) (N := some 17) (qa_ 12 1023) ?_
  refine pu_ (i := 10) (N := some 4) (qa_ 12 2047) ?_
  refine pu_ (i := 11) (N := some 5) (qa_ 12 4095) ?_
  refine done_ (by kernel_rfl) ?_
  clear hHeld
  have hbb : Below w.heap.size w w1 := HN.out.trans (hb2.mono (below_size HN.out))
  have HV2 := Lib.hid hv2; have HI2 := Lib.hid hi2; have HG2 := Lib.hid hg2; have HBB := Lib.hid hbb
  clear hv2 hi2 hg2 hbb
  go_wp2_with fail
  go_ret
  obtain ⟨A, c, h5, h6, h7, h8⟩ := HV2.out
  exact ⟨_, rfl, ⟨A, c, h5, h6, h7, fun ad e => Nat.le_trans (below_size HBB.out) (h8 ad e)⟩, HI2.out.1, grown_trans (grown_of_below HBB.out _) HG2.out⟩
def mostP (P : List S48) (Q : List S50) : List Int × Int := if validB P Q then (ints (mostN P Q), 0) else ([], 10)
theorem mostP_no {P : List S48} {Q : List S50} (h : validB P Q = false) : mostP P Q = ([], 10) := by unfold mostP; rw [h]; rfl
theorem mostP_yes {P : List S48} {Q : List S50} (h : validB P Q = true) : mostP P Q = (ints (mostN P Q), 0) := by unfold mostP; rw [h]; rfl
theorem checkP_no {P : List S48} {Q : List S50} (h : validB P Q = false) : checkP P Q = 10 := by unfold checkP; rw [h]; rfl
theorem checkP_yes {P : List S48} {Q : List S50} (h : validB P Q = true) : checkP P Q = 0 := by unfold checkP; rw [h]; rfl
set_option maxRecDepth 100000 in
theorem calls_Most (PA : Option Addr) (pc : Nat) (P : List S48) (QA : Option Addr) (qc : Nat) (Q : List S50) (w : World) (hP : Kd.C k48 w PA P.length P) (hpc : P.length ≤ pc) (hQ : Kd.C k50 w QA Q.length Q) (hqc : Q.length ≤ qc) (hG : Glob w) :
    Calls Tryd.prog 26 #[.agg #[.slice PA P.length pc, .slice QA Q.length qc]] w fun e w' => ∃ v, e = .returned (.tuple #[v, .int .i64 (mostP P Q).2]) ∧ Kd.V (Kd.int .i64) 3 w' w.heap.size (fun k => w.heap.size ≤ k) v (mostP P Q).1 ∧ Below w.heap.size w w' := by
  obtain ⟨n0, n1, n2⟩ := new1 w (.cells #[.slice PA P.length pc, .slice QA Q.length qc] 25)
  have HP := Lib.hid (Kd.C_below hP n1); have HQ := Lib.hid (Kd.C_below hQ n1); have HG := Lib.hid (hG.below n1); have HX := Lib.hid n0; have HB := Lib.hid n1
  clear n0 n1 n2 hP hQ hG
  cases hv : validB P Q with
  | false =>
    have hck := checkP_no hv
    rw [mostP_no hv]
    go_enter Tryd.func26, Tryd.ntmps26
    go_wp2_with (go_at_call 18; (with_reducible refine (calls_Check PA pc P QA qc Q _ HP.out hpc HQ.out hqc).mono ?_); rintro e w1 ⟨he, hb⟩; rw [hck] at he; subst he; have HB := Lib.hid (HB.out.trans (hb.mono (below_size HB.out))))
    exact bodyPost_ret (results_tmp2 rfl _ _ _) rfl ⟨_, rfl, Kd.V_nil _ _ _ _ _, HB.out⟩
  | true =>
    have hck := checkP_yes hv
    have hok := valid_ok hv
    rw [mostP_yes hv]
    clear hv
    go_enter Tryd.func26, Tryd.ntmps26
    go_wp2_with (first | (go_at_call 18; (with_reducible refine (calls_Check PA pc P QA qc Q _ HP.out hpc HQ.out hqc).mono ?_); rintro e w1 ⟨he, hb⟩; rw [hck] at he; subst he; have HP := Lib.hid (Kd.C_below HP.out hb); have HQ := Lib.hid (Kd.C_below HQ.out hb); have HG := Lib.hid (HG.out.below hb); have HX := Lib.hid (below_far HX.out hb); have HB := Lib.hid (HB.out.trans (hb.mono (below_size HB.out))); obtain ⟨c0, c1⟩ : w1.cell? ⟨w.heap.size, 0, none⟩ = some (.slice PA P.length pc) ∧ w1.cell? ⟨w.heap.size, 1, none⟩ = some (.slice QA Q.length qc) := ⟨blk_cell HX.out 0, blk_cell HX.out 1⟩; clear hb) | (go_at_call 60; (with_reducible refine (calls_opened PA pc QA qc P Q _ HG.out HP.out HQ.out).mono ?_); rintro e w2 ⟨m, rfl, hbk, hm, hb⟩; have hm := Nat.le_trans (below_size HB.out) hm; have HB := Lib.hid (HB.out.trans (hb.mono (below_size HB.out)))) | (go_at_call 79; (with_reducible refine (calls_most PA pc QA qc m P Q hok _ hbk).mono ?_); rintro e w3 ⟨v3, rfl, hv3, hbk3, hg3⟩))
    obtain ⟨A, c, rfl, h6, h7, h8⟩ := hv3
    refine bodyPost_ret (results_tmp2 rfl _ _ _) rfl ⟨_, rfl, ?_, grown_Below HB.out hm hg3⟩
    exact (show VI w.heap.size w3 (.slice A (ints (mostN P Q)).length c) (ints (mostN P Q)) from ⟨A, c, rfl, h6, h7, fun ad e => Nat.le_trans (below_size HB.out) (h8 ad e)⟩).V
def inB (n : Int) (l : Nat) : Bool := decide (0 ≤ n) && decide (n ≤ (l : Int) - 1)
def canP (P : List S48) (Q : List S50) (i p a : Int) : Int × Int :=
  if validB P Q then if inB i P.length && (inB p Q.length && liesB (P.getD i.toNat z48) (Q.getD p.toNat z50) a) then (((canN (P.getD i.toNat z48) (Q.getD p.toNat z50) a.toNat : Nat) : Int), 0) else (0, 11) else (0, 10)
theorem in_nat {n : Int} {l : Nat} (h : inB n l = true) : ∃ k : Nat, n = (k : Int) ∧ k < l := by
  unfold inB at h
  simp only [Bool.and_eq_true, decide_eq_true_eq] at h
  exact ⟨n.toNat, by omega, by omega⟩
set_option maxRecDepth 100000 in
set_option maxHeartbeats 1000000 in
theorem calls_Can (PA : Option Addr) (pc : Nat) (P : List S48) (QA : Option Addr) (qc : Nat) (Q : List S50) (i p a : Int) (w : World) (hP : Kd.C k48 w PA P.length P) (hpc : P.length ≤ pc) (hQ : Kd.C k50 w QA Q.length Q) (hqc : Q.length ≤ qc) (hG : Glob w) :
    Calls Tryd.prog 16 #[.agg #[.slice PA P.length pc, .slice QA Q.length qc], .int .i64 i, .int .i64 p, .int .i64 a] w fun e w' => e = .returned (.tuple #[.int .i64 (canP P Q i p a).1, .int .i64 (canP P Q i p a).2]) ∧ Below w.heap.size w w' := by
  obtain ⟨n0, n1, n2⟩ := new1 w (.cells #[.slice PA P.length pc, .slice QA Q.length qc] 25)
  have HP := Lib.hid (Kd.C_below hP n1); have HQ := Lib.hid (Kd.C_below hQ n1); have HG := Lib.hid (hG.below n1); have HX := Lib.hid n0; have HB := Lib.hid n1
  clear n0 n1 n2 hP hQ hG
  cases hv : validB P Q with
  | false =>
    have hck := checkP_no hv
    rw [show canP P Q i p a = (0, 10) from by unfold canP; rw [hv]; rfl]
    go_enter Tryd.func16, Tryd.ntmps16
    go_wp2_with (go_at_call 18; (with_reducible refine (calls_Check PA pc P QA qc Q _ HP.out hpc HQ.out hqc).mono ?_); rintro e w1 ⟨he, hb⟩; rw [hck] at he; subst he; have HB := Lib.hid (HB.out.trans (hb.mono (below_size HB.out))))
    exact bodyPost_ret (results_tmp2 rfl _ _ _) rfl ⟨rfl, HB.out⟩
  | true =>
    have hck := checkP_yes hv
    have hok := valid_ok hv
    have hcan : canP P Q i p a = if inB i P.length && (inB p Q.length && liesB (P.getD i.toNat z48) (Q.getD p.toNat z50) a) then (((canN (P.getD i.toNat z48) (Q.getD p.toNat z50) a.toNat : Nat) : Int), 0) else (0, 11) := by unfold canP; rw [hv]; rfl
    rw [hcan]
    clear hv hcan
    have hcpl := fun W hPW hQW => calls_isPlank PA pc P QA qc Q i W hPW hpc hQW hqc
    have hcpa := fun W hPW hQW => calls_isPart PA pc P QA qc Q p W hPW hpc hQW hqc
    rw [show (decide (0 ≤ i) && decide (i ≤ (P.length : Int) - 1)) = inB i P.length from rfl] at hcpl
    rw [show (decide (0 ≤ p) && decide (p ≤ (Q.length : Int) - 1)) = inB p Q.length from rfl] at hcpa
    have HCL := Lib.hid hcpl; have HCA := Lib.hid hcpa; clear hcpl hcpa
    obtain ⟨e1, h1⟩ : ∃ e1, inB i P.length = e1 := ⟨_, rfl⟩
    obtain ⟨e2, h2⟩ : ∃ e2, inB p Q.length = e2 := ⟨_, rfl⟩
    rw [h1, h2]
    rw [h1] at HCL
    rw [h2] at HCA
    go_enter Tryd.func16, Tryd.ntmps16
    cases e1 with
    | false =>
      go_wp2_with (first | (go_at_call 18; (with_reducible refine (calls_Check PA pc P QA qc Q _ HP.out hpc HQ.out hqc).mono ?_); rintro e w1 ⟨he, hb⟩; rw [hck] at he; subst he; have HP := Lib.hid (Kd.C_below HP.out hb); have HQ := Lib.hid (Kd.C_below HQ.out hb); have HG := Lib.hid (HG.out.below hb); have HX := Lib.hid (below_far HX.out hb); have HB := Lib.hid (HB.out.trans (hb.mono (below_size HB.out))); obtain ⟨c0, c1⟩ : w1.cell? ⟨w.heap.size, 0, none⟩ = some (.slice PA P.length pc) ∧ w1.cell? ⟨w.heap.size, 1, none⟩ = some (.slice QA Q.length qc) := ⟨blk_cell HX.out 0, blk_cell HX.out 1⟩; clear hb) | (go_at_call 60; (with_reducible refine (calls_opened PA pc QA qc P Q _ HG.out HP.out HQ.out).mono ?_); rintro e w2 ⟨m, rfl, hbk, hm, hb⟩; have hm := Nat.le_trans (below_size HB.out) hm; obtain ⟨n0, n1, n2, n3⟩ := new2 w2 (.cells #[.slice PA P.length pc, .slice QA Q.length qc, .map (some m)] 84) (.cells #[.int .i64 i, .int .i64 p, .int .i64 a] 87); have hxl := blk_lt (below_far HX.out hb); have hxl2 := Nat.lt_succ_of_lt hxl; have HX := Lib.hid (below_far (below_far HX.out hb) n2); have HP := Lib.hid (Kd.C_below (Kd.C_below HP.out hb) n2); have HQ := Lib.hid (Kd.C_below (Kd.C_below HQ.out hb) n2); have HB := Lib.hid (HB.out.trans ((hb.mono (below_size HB.out)).trans (n2.mono (Nat.le_trans (below_size HB.out) (below_size hb))))); have HBK := Lib.hid (hbk.below n2); have HK := Lib.hid n0; have HS := Lib.hid n1; have HMW := Lib.hid hm; clear hb hbk c0 c1 n0 n1 n2 n3 hm; obtain ⟨c0, c1⟩ : ((w2.alloc (.cells #[.slice PA P.length pc, .slice QA Q.length qc, .map (some m)] 84)).alloc (.cells #[.int .i64 i, .int .i64 p, .int .i64 a] 87)).cell? ⟨w.heap.size, 0, none⟩ = some (.slice PA P.length pc) ∧ ((w2.alloc (.cells #[.slice PA P.length pc, .slice QA Q.length qc, .map (some m)] 84)).alloc (.cells #[.int .i64 i, .int .i64 p, .int .i64 a] 87)).cell? ⟨w.heap.size, 1, none⟩ = some (.slice QA Q.length qc) := ⟨blk_cell HX.out 0, blk_cell HX.out 1⟩; obtain ⟨k0, k1, k2⟩ : ((w2.alloc (.cells #[.slice PA P.length pc, .slice QA Q.length qc, .map (some m)] 84)).alloc (.cells #[.int .i64 i, .int .i64 p, .int .i64 a] 87)).cell? ⟨w2.heap.size, 0, none⟩ = some (.slice PA P.length pc) ∧ ((w2.alloc (.cells #[.slice PA P.length pc, .slice QA Q.length qc, .map (some m)] 84)).alloc (.cells #[.int .i64 i, .int .i64 p, .int .i64 a] 87)).cell? ⟨w2.heap.size, 1, none⟩ = some (.slice QA Q.length qc) ∧ ((w2.alloc (.cells #[.slice PA P.length pc, .slice QA Q.length qc, .map (some m)] 84)).alloc (.cells #[.int .i64 i, .int .i64 p, .int .i64 a] 87)).cell? ⟨w2.heap.size, 2, none⟩ = some (.map (some m)) := ⟨blk_cell HK.out 0, blk_cell HK.out 1, blk_cell HK.out 2⟩; obtain ⟨s0, s1, s2⟩ : ((w2.alloc (.cells #[.slice PA P.length pc, .slice QA Q.length qc, .map (some m)] 84)).alloc (.cells #[.int .i64 i, .int .i64 p, .int .i64 a] 87)).cell? ⟨w2.heap.size + 1, 0, none⟩ = some (.int .i64 i) ∧ ((w2.alloc (.cells #[.slice PA P.length pc, .slice QA Q.length qc, .map (some m)] 84)).alloc (.cells #[.int .i64 i, .int .i64 p, .int .i64 a] 87)).cell? ⟨w2.heap.size + 1, 1, none⟩ = some (.int .i64 p) ∧ ((w2.alloc (.cells #[.slice PA P.length pc, .slice QA Q.length qc, .map (some m)] 84)).alloc (.cells #[.int .i64 i, .int .i64 p, .int .i64 a] 87)).cell? ⟨w2.heap.size + 1, 2, none⟩ = some (.int .i64 a) := ⟨blk_cell HS.out 0, blk_cell HS.out 1, blk_cell HS.out 2⟩) | (go_at_call 61; (with_reducible refine (HCL.out _ HP.out HQ.out).mono ?_); rintro e w3 ⟨rfl, hb⟩; have HX := Lib.hid (below_far HX.out hb); have HP := Lib.hid (Kd.C_below HP.out hb); have HQ := Lib.hid (Kd.C_below HQ.out hb); have HB := Lib.hid (HB.out.trans (hb.mono (below_size HB.out))); have HBK := Lib.hid (HBK.out.below hb); have HK := Lib.hid (below_far HK.out hb); have HS := Lib.hid (below_far HS.out hb); clear hb c0 c1 k0 k1 k2 s0 s1 s2; obtain ⟨c0, c1⟩ : w3.cell? ⟨w.heap.size, 0, none⟩ = some (.slice PA P.length pc) ∧ w3.cell? ⟨w.heap.size, 1, none⟩ = some (.slice QA Q.length qc) := ⟨blk_cell HX.out 0, blk_cell HX.out 1⟩; obtain ⟨k0, k1, k2⟩ : w3.cell? ⟨w2.heap.size, 0, none⟩ = some (.slice PA P.length pc) ∧ w3.cell? ⟨w2.heap.size, 1, none⟩ = some (.slice QA Q.length qc) ∧ w3.cell? ⟨w2.heap.size, 2, none⟩ = some (.map (some m)) := ⟨blk_cell HK.out 0, blk_cell HK.out 1, blk_cell HK.out 2⟩; obtain ⟨s0, s1, s2⟩ : w3.cell? ⟨w2.heap.size + 1, 0, none⟩ = some (.int .i64 i) ∧ w3.cell? ⟨w2.heap.size + 1, 1, none⟩ = some (.int .i64 p) ∧ w3.cell? ⟨w2.heap.size + 1, 2, none⟩ = some (.int .i64 a) := ⟨blk_cell HS.out 0, blk_cell HS.out 1, blk_cell HS.out 2⟩))
      exact bodyPost_ret (results_tmp2 rfl _ _ _) rfl ⟨rfl, HB.out⟩
    | true =>
      cases e2 with
      | false =>
        go_wp2_with (first | (go_at_call 18; (with_reducible refine (calls_Check PA pc P QA qc Q _ HP.out hpc HQ.out hqc).mono ?_); rintro e w1 ⟨he, hb⟩; rw [hck] at he; subst he; have HP := Lib.hid (Kd.C_below HP.out hb); have HQ := Lib.hid (Kd.C_below HQ.out hb); have HG := Lib.hid (HG.out.below hb); have HX := Lib.hid (below_far HX.out hb); have HB := Lib.hid (HB.out.trans (hb.mono (below_size HB.out))); obtain ⟨c0, c1⟩ : w1.cell? ⟨w.heap.size, 0, none⟩ = some (.slice PA P.length pc) ∧ w1.cell? ⟨w.heap.size, 1, none⟩ = some (.slice QA Q.length qc) := ⟨blk_cell HX.out 0, blk_cell HX.out 1⟩; clear hb) | (go_at_call 60; (with_reducible refine (calls_opened PA pc QA qc P Q _ HG.out HP.out HQ.out).mono ?_); rintro e w2 ⟨m, rfl, hbk, hm, hb⟩; have hm := Nat.le_trans (below_size HB.out) hm; obtain ⟨n0, n1, n2, n3⟩ := new2 w2 (.cells #[.slice PA P.length pc, .slice QA Q.length qc, .map (some m)] 84) (.cells #[.int .i64 i, .int .i64 p, .int .i64 a] 87); have hxl := blk_lt (below_far HX.out hb); have hxl2 := Nat.lt_succ_of_lt hxl; have HX := Lib.hid (below_far (below_far HX.out hb) n2); have HP := Lib.hid (Kd.C_below (Kd.C_below HP.out hb) n2); have HQ := Lib.hid (Kd.C_below (Kd.C_below HQ.out hb) n2); have HB := Lib.hid (HB.out.trans ((hb.mono (below_size HB.out)).trans (n2.mono (Nat.le_trans (below_size HB.out) (below_size hb))))); have HBK := Lib.hid (hbk.below n2); have HK := Lib.hid n0; have HS := Lib.hid n1; have HMW := Lib.hid hm; clear hb hbk c0 c1 n0 n1 n2 n3 hm; obtain ⟨c0, c1⟩ : ((w2.alloc (.cells #[.slice PA P.length pc, .slice QA Q.length qc, .map (some m)] 84)).alloc (.cells #[.int .i64 i, .int .i64 p, .int .i64 a] 87)).cell? ⟨w.heap.size, 0, none⟩ = some (.slice PA P.length pc) ∧ ((w2.alloc (.cells #[.slice PA P.length pc, .slice QA Q.length qc, .map (some m)] 84)).alloc (.cells #[.int .i64 i, .int .i64 p, .int .i64 a] 87)).cell? ⟨w.heap.size, 1, none⟩ = some (.slice QA Q.length qc) := ⟨blk_cell HX.out 0, blk_cell HX.out 1⟩; obtain ⟨k0, k1, k2⟩ : ((w2.alloc (.cells #[.slice PA P.length pc, .slice QA Q.length qc, .map (some m)] 84)).alloc (.cells #[.int .i64 i, .int .i64 p, .int .i64 a] 87)).cell? ⟨w2.heap.size, 0, none⟩ = some (.slice PA P.length pc) ∧ ((w2.alloc (.cells #[.slice PA P.length pc, .slice QA Q.length qc, .map (some m)] 84)).alloc (.cells #[.int .i64 i, .int .i64 p, .int .i64 a] 87)).cell? ⟨w2.heap.size, 1, none⟩ = some (.slice QA Q.length qc) ∧ ((w2.alloc (.cells #[.slice PA P.length pc, .slice QA Q.length qc, .map (some m)] 84)).alloc (.cells #[.int .i64 i, .int .i64 p, .int .i64 a] 87)).cell? ⟨w2.heap.size, 2, none⟩ = some (.map (some m)) := ⟨blk_cell HK.out 0, blk_cell HK.out 1, blk_cell HK.out 2⟩; obtain ⟨s0, s1, s2⟩ : ((w2.alloc (.cells #[.slice PA P.length pc, .slice QA Q.length qc, .map (some m)] 84)).alloc (.cells #[.int .i64 i, .int .i64 p, .int .i64 a] 87)).cell? ⟨w2.heap.size + 1, 0, none⟩ = some (.int .i64 i) ∧ ((w2.alloc (.cells #[.slice PA P.length pc, .slice QA Q.length qc, .map (some m)] 84)).alloc (.cells #[.int .i64 i, .int .i64 p, .int .i64 a] 87)).cell? ⟨w2.heap.size + 1, 1, none⟩ = some (.int .i64 p) ∧ ((w2.alloc (.cells #[.slice PA P.length pc, .slice QA Q.length qc, .map (some m)] 84)).alloc (.cells #[.int .i64 i, .int .i64 p, .int .i64 a] 87)).cell? ⟨w2.heap.size + 1, 2, none⟩ = some (.int .i64 a) := ⟨blk_cell HS.out 0, blk_cell HS.out 1, blk_cell HS.out 2⟩) | (go_at_call 61; (with_reducible refine (HCL.out _ HP.out HQ.out).mono ?_); rintro e w3 ⟨rfl, hb⟩; have HX := Lib.hid (below_far HX.out hb); have HP := Lib.hid (Kd.C_below HP.out hb); have HQ := Lib.hid (Kd.C_below HQ.out hb); have HB := Lib.hid (HB.out.trans (hb.mono (below_size HB.out))); have HBK := Lib.hid (HBK.out.below hb); have HK := Lib.hid (below_far HK.out hb); have HS := Lib.hid (below_far HS.out hb); clear hb c0 c1 k0 k1 k2 s0 s1 s2; obtain ⟨c0, c1⟩ : w3.cell? ⟨w.heap.size, 0, none⟩ = some (.slice PA P.length pc) ∧ w3.cell? ⟨w.heap.size, 1, none⟩ = some (.slice QA Q.length qc) := ⟨blk_cell HX.out 0, blk_cell HX.out 1⟩; obtain ⟨k0, k1, k2⟩ : w3.cell? ⟨w2.heap.size, 0, none⟩ = some (.slice PA P.length pc) ∧ w3.cell? ⟨w2.heap.size, 1, none⟩ = some (.slice QA Q.length qc) ∧ w3.cell? ⟨w2.heap.size, 2, none⟩ = some (.map (some m)) := ⟨blk_cell HK.out 0, blk_cell HK.out 1, blk_cell HK.out 2⟩; obtain ⟨s0, s1, s2⟩ : w3.cell? ⟨w2.heap.size + 1, 0, none⟩ = some (.int .i64 i) ∧ w3.cell? ⟨w2.heap.size + 1, 1, none⟩ = some (.int .i64 p) ∧ w3.cell? ⟨w2.heap.size + 1, 2, none⟩ = some (.int .i64 a) := ⟨blk_cell HS.out 0, blk_cell HS.out 1, blk_cell HS.out 2⟩) | (go_at_call 62; (with_reducible refine (HCA.out _ HP.out HQ.out).mono ?_); rintro e w5 ⟨rfl, hb⟩; have HX := Lib.hid (below_far HX.out hb); have HP := Lib.hid (Kd.C_below HP.out hb); have HQ := Lib.hid (Kd.C_below HQ.out hb); have HB := Lib.hid (HB.out.trans (hb.mono (below_size HB.out))); have HBK := Lib.hid (HBK.out.below hb); have HK := Lib.hid (below_far HK.out hb); have HS := Lib.hid (below_far HS.out hb); clear hb c0 c1 k0 k1 k2 s0 s1 s2; obtain ⟨c0, c1⟩ : w5.cell? ⟨w.heap.size, 0, none⟩ = some (.slice PA P.length pc) ∧ w5.cell? ⟨w.heap.size, 1, none⟩ = some (.slice QA Q.length qc) := ⟨blk_cell HX.out 0, blk_cell HX.out 1⟩; obtain ⟨k0, k1, k2⟩ : w5.cell? ⟨w2.heap.size, 0, none⟩ = some (.slice PA P.length pc) ∧ w5.cell? ⟨w2.heap.size, 1, none⟩ = some (.slice QA Q.length qc) ∧ w5.cell? ⟨w2.heap.size, 2, none⟩ = some (.map (some m)) := ⟨blk_cell HK.out 0, blk_cell HK.out 1, blk_cell HK.out 2⟩; obtain ⟨s0, s1, s2⟩ : w5.cell? ⟨w2.heap.size + 1, 0, none⟩ = some (.int .i64 i) ∧ w5.cell? ⟨w2.heap.size + 1, 1, none⟩ = some (.int .i64 p) ∧ w5.cell? ⟨w2.heap.size + 1, 2, none⟩ = some (.int .i64 a) := ⟨blk_cell HS.out 0, blk_cell HS.out 1, blk_cell HS.out 2⟩))
        exact bodyPost_ret (results_tmp2 rfl _ _ _) rfl ⟨rfl, HB.out⟩
      | true =>
        obtain ⟨i', rfl, hi⟩ := in_nat h1
        obtain ⟨p', rfl, hp⟩ := in_nat h2
        rw [show ((i' : Nat) : Int).toNat = i' from rfl, show ((p' : Nat) : Int).toNat = p' from rfl]
        have hli := fun m W hPW hQW => calls_lies PA pc QA qc m P Q i' p' a hi hp (hok.sized hi hp) W hPW hQW
        unfold bookV at hli
        obtain ⟨e3, h3⟩ : ∃ e3, liesB (P.getD i' z48) (Q.getD p' z50) a = e3 := ⟨_, rfl⟩
        rw [h3] at hli ⊢
        have HLI := Lib.hid hli; clear hli
        cases e3 with
        | false =>
          go_wp2_with (first | (go_at_call 18; (with_reducible refine (calls_Check PA pc P QA qc Q _ HP.out hpc HQ.out hqc).mono ?_); rintro e w1 ⟨he, hb⟩; rw [hck] at he; subst he; have HP := Lib.hid (Kd.C_below HP.out hb); have HQ := Lib.hid (Kd.C_below HQ.out hb); have HG := Lib.hid (HG.out.below hb); have HX := Lib.hid (below_far HX.out hb); have HB := Lib.hid (HB.out.trans (hb.mono (below_size HB.out))); obtain ⟨c0, c1⟩ : w1.cell? ⟨w.heap.size, 0, none⟩ = some (.slice PA P.length pc) ∧ w1.cell? ⟨w.heap.size, 1, none⟩ = some (.slice QA Q.length qc) := ⟨blk_cell HX.out 0, blk_cell HX.out 1⟩; clear hb) | (go_at_call 60; (with_reducible refine (calls_opened PA pc QA qc P Q _ HG.out HP.out HQ.out).mono ?_); rintro e w2 ⟨m, rfl, hbk, hm, hb⟩; have hm := Nat.le_trans (below_size HB.out) hm; obtain ⟨n0, n1, n2, n3⟩ := new2 w2 (.cells #[.slice PA P.length pc, .slice QA Q.length qc, .map (some m)] 84) (.cells #[.int .i64 i', .int .i64 p', .int .i64 a] 87); have hxl := blk_lt (below_far HX.out hb); have hxl2 := Nat.lt_succ_of_lt hxl; have HX := Lib.hid (below_far (below_far HX.out hb) n2); have HP := Lib.hid (Kd.C_below (Kd.C_below HP.out hb) n2); have HQ := Lib.hid (Kd.C_below (Kd.C_below HQ.out hb) n2); have HB := Lib.hid (HB.out.trans ((hb.mono (below_size HB.out)).trans (n2.mono (Nat.le_trans (below_size HB.out) (below_size hb))))); have HBK := Lib.hid (hbk.below n2); have HK := Lib.hid n0; have HS := Lib.hid n1; have HMW := Lib.hid hm; clear hb hbk c0 c1 n0 n1 n2 n3 hm; obtain ⟨c0, c1⟩ : ((w2.alloc (.cells #[.slice PA P.length pc, .slice QA Q.length qc, .map (some m)] 84)).alloc (.cells #[.int .i64 i', .int .i64 p', .int .i64 a] 87)).cell? ⟨w.heap.size, 0, none⟩ = some (.slice PA P.length pc) ∧ ((w2.alloc (.cells #[.slice PA P.length pc, .slice QA Q.length qc, .map (some m)] 84)).alloc (.cells #[.int .i64 i', .int .i64 p', .int .i64 a] 87)).cell? ⟨w.heap.size, 1, none⟩ = some (.slice QA Q.length qc) := ⟨blk_cell HX.out 0, blk_cell HX.out 1⟩; obtain ⟨k0, k1, k2⟩ : ((w2.alloc (.cells #[.slice PA P.length pc, .slice QA Q.length qc, .map (some m)] 84)).alloc (.cells #[.int .i64 i', .int .i64 p', .int .i64 a] 87)).cell? ⟨w2.heap.size, 0, none⟩ = some (.slice PA P.length pc) ∧ ((w2.alloc (.cells #[.slice PA P.length pc, .slice QA Q.length qc, .map (some m)] 84)).alloc (.cells #[.int .i64 i', .int .i64 p', .int .i64 a] 87)).cell? ⟨w2.heap.size, 1, none⟩ = some (.slice QA Q.length qc) ∧ ((w2.alloc (.cells #[.slice PA P.length pc, .slice QA Q.length qc, .map (some m)] 84)).alloc (.cells #[.int .i64 i', .int .i64 p', .int .i64 a] 87)).cell? ⟨w2.heap.size, 2, none⟩ = some (.map (some m)) := ⟨blk_cell HK.out 0, blk_cell HK.out 1, blk_cell HK.out 2⟩; obtain ⟨s0, s1, s2⟩ : ((w2.alloc (.cells #[.slice PA P.length pc, .slice QA Q.length qc, .map (some m)] 84)).alloc (.cells #[.int .i64 i', .int .i64 p', .int .i64 a] 87)).cell? ⟨w2.heap.size + 1, 0, none⟩ = some (.int .i64 i') ∧ ((w2.alloc (.cells #[.slice PA P.length pc, .slice QA Q.length qc, .map (some m)] 84)).alloc (.cells #[.int .i64 i', .int .i64 p', .int .i64 a] 87)).cell? ⟨w2.heap.size + 1, 1, none⟩ = some (.int .i64 p') ∧ ((w2.alloc (.cells #[.slice PA P.length pc, .slice QA Q.length qc, .map (some m)] 84)).alloc (.cells #[.int .i64 i', .int .i64 p', .int .i64 a] 87)).cell? ⟨w2.heap.size + 1, 2, none⟩ = some (.int .i64 a) := ⟨blk_cell HS.out 0, blk_cell HS.out 1, blk_cell HS.out 2⟩) | (go_at_call 61; (with_reducible refine (HCL.out _ HP.out HQ.out).mono ?_); rintro e w3 ⟨rfl, hb⟩; have HX := Lib.hid (below_far HX.out hb); have HP := Lib.hid (Kd.C_below HP.out hb); have HQ := Lib.hid (Kd.C_below HQ.out hb); have HB := Lib.hid (HB.out.trans (hb.mono (below_size HB.out))); have HBK := Lib.hid (HBK.out.below hb); have HK := Lib.hid (below_far HK.out hb); have HS := Lib.hid (below_far HS.out hb); clear hb c0 c1 k0 k1 k2 s0 s1 s2; obtain ⟨c0, c1⟩ : w3.cell? ⟨w.heap.size, 0, none⟩ = some (.slice PA P.length pc) ∧ w3.cell? ⟨w.heap.size, 1, none⟩ = some (.slice QA Q.length qc) := ⟨blk_cell HX.out 0, blk_cell HX.out 1⟩; obtain ⟨k0, k1, k2⟩ : w3.cell? ⟨w2.heap.size, 0, none⟩ = some (.slice PA P.length pc) ∧ w3.cell? ⟨w2.heap.size, 1, none⟩ = some (.slice QA Q.length qc) ∧ w3.cell? ⟨w2.heap.size, 2, none⟩ = some (.map (some m)) := ⟨blk_cell HK.out 0, blk_cell HK.out 1, blk_cell HK.out 2⟩; obtain ⟨s0, s1, s2⟩ : w3.cell? ⟨w2.heap.size + 1, 0, none⟩ = some (.int .i64 i') ∧ w3.cell? ⟨w2.heap.size + 1, 1, none⟩ = some (.int .i64 p') ∧ w3.cell? ⟨w2.heap.size + 1, 2, none⟩ = some (.int .i64 a) := ⟨blk_cell HS.out 0, blk_cell HS.out 1, blk_cell HS.out 2⟩) | (go_at_call 62; (with_reducible refine (HCA.out _ HP.out HQ.out).mono ?_); rintro e w5 ⟨rfl, hb⟩; have HX := Lib.hid (below_far HX.out hb); have HP := Lib.hid (Kd.C_below HP.out hb); have HQ := Lib.hid (Kd.C_below HQ.out hb); have HB := Lib.hid (HB.out.trans (hb.mono (below_size HB.out))); have HBK := Lib.hid (HBK.out.below hb); have HK := Lib.hid (below_far HK.out hb); have HS := Lib.hid (below_far HS.out hb); clear hb c0 c1 k0 k1 k2 s0 s1 s2; obtain ⟨c0, c1⟩ : w5.cell? ⟨w.heap.size, 0, none⟩ = some (.slice PA P.length pc) ∧ w5.cell? ⟨w.heap.size, 1, none⟩ = some (.slice QA Q.length qc) := ⟨blk_cell HX.out 0, blk_cell HX.out 1⟩; obtain ⟨k0, k1, k2⟩ : w5.cell? ⟨w2.heap.size, 0, none⟩ = some (.slice PA P.length pc) ∧ w5.cell? ⟨w2.heap.size, 1, none⟩ = some (.slice QA Q.length qc) ∧ w5.cell? ⟨w2.heap.size, 2, none⟩ = some (.map (some m)) := ⟨blk_cell HK.out 0, blk_cell HK.out 1, blk_cell HK.out 2⟩; obtain ⟨s0, s1, s2⟩ : w5.cell? ⟨w2.heap.size + 1, 0, none⟩ = some (.int .i64 i') ∧ w5.cell? ⟨w2.heap.size + 1, 1, none⟩ = some (.int .i64 p') ∧ w5.cell? ⟨w2.heap.size + 1, 2, none⟩ = some (.int .i64 a) := ⟨blk_cell HS.out 0, blk_cell HS.out 1, blk_cell HS.out 2⟩) | (go_at_call 63; (with_reducible refine (HLI.out _ _ HP.out HQ.out).mono ?_); rintro e w6 ⟨rfl, hb⟩; have HX := Lib.hid (below_far HX.out hb); have HP := Lib.hid (Kd.C_below HP.out hb); have HQ := Lib.hid (Kd.C_below HQ.out hb); have HB := Lib.hid (HB.out.trans (hb.mono (below_size HB.out))); have HBK := Lib.hid (HBK.out.below hb); have HK := Lib.hid (below_far HK.out hb); have HS := Lib.hid (below_far HS.out hb); clear hb c0 c1 k0 k1 k2 s0 s1 s2; obtain ⟨c0, c1⟩ : w6.cell? ⟨w.heap.size, 0, none⟩ = some (.slice PA P.length pc) ∧ w6.cell? ⟨w.heap.size, 1, none⟩ = some (.slice QA Q.length qc) := ⟨blk_cell HX.out 0, blk_cell HX.out 1⟩; obtain ⟨k0, k1, k2⟩ : w6.cell? ⟨w2.heap.size, 0, none⟩ = some (.slice PA P.length pc) ∧ w6.cell? ⟨w2.heap.size, 1, none⟩ = some (.slice QA Q.length qc) ∧ w6.cell? ⟨w2.heap.size, 2, none⟩ = some (.map (some m)) := ⟨blk_cell HK.out 0, blk_cell HK.out 1, blk_cell HK.out 2⟩; obtain ⟨s0, s1, s2⟩ : w6.cell? ⟨w2.heap.size + 1, 0, none⟩ = some (.int .i64 i') ∧ w6.cell? ⟨w2.heap.size + 1, 1, none⟩ = some (.int .i64 p') ∧ w6.cell? ⟨w2.heap.size + 1, 2, none⟩ = some (.int .i64 a) := ⟨blk_cell HS.out 0, blk_cell HS.out 1, blk_cell HS.out 2⟩))
          exact bodyPost_ret (results_tmp2 rfl _ _ _) rfl ⟨rfl, HB.out⟩
        | true =>
          obtain ⟨a', rfl⟩ : ∃ a' : Nat, a = a' := ⟨a.toNat, by unfold liesB at h3; simp only [Bool.and_eq_true, decide_eq_true_eq] at h3; omega⟩
          rw [show ((a' : Nat) : Int).toNat = a' from rfl]
          have hcn := fun m W hB => calls_bcan PA pc QA qc m P Q i' p' a' hi hp (hok.woodOk hi) (hok.fits hi hp h3) W hB
          unfold bookV at hcn
          have HCN := Lib.hid hcn; clear hcn
          go_wp2_with (first | (go_at_call 18; (with_reducible refine (calls_Check PA pc P QA qc Q _ HP.out hpc HQ.out hqc).mono ?_); rintro e w1 ⟨he, hb⟩; rw [hck] at he; subst he; have HP := Lib.hid (Kd.C_below HP.out hb); have HQ := Lib.hid (Kd.C_below HQ.out hb); have HG := Lib.hid (HG.out.below hb); have HX := Lib.hid (below_far HX.out hb); have HB := Lib.hid (HB.out.trans (hb.mono (below_size HB.out))); obtain ⟨c0, c1⟩ : w1.cell? ⟨w.heap.size, 0, none⟩ = some (.slice PA P.length pc) ∧ w1.cell? ⟨w.heap.size, 1, none⟩ = some (.slice QA Q.length qc) := ⟨blk_cell HX.out 0, blk_cell HX.out 1⟩; clear hb) | (go_at_call 60; (with_reducible refine (calls_opened PA pc QA qc P Q _ HG.out HP.out HQ.out).mono ?_); rintro e w2 ⟨m, rfl, hbk, hm, hb⟩; have hm := Nat.le_trans (below_size HB.out) hm; obtain ⟨n0, n1, n2, n3⟩ := new2 w2 (.cells #[.slice PA P.length pc, .slice QA Q.length qc, .map (some m)] 84) (.cells #[.int .i64 i', .int .i64 p', .int .i64 a'] 87); have hxl := blk_lt (below_far HX.out hb); have hxl2 := Nat.lt_succ_of_lt hxl; have HX := Lib.hid (below_far (below_far HX.out hb) n2); have HP := Lib.hid (Kd.C_below (Kd.C_below HP.out hb) n2); have HQ := Lib.hid (Kd.C_below (Kd.C_below HQ.out hb) n2); have HB := Lib.hid (HB.out.trans ((hb.mono (below_size HB.out)).trans (n2.mono (Nat.le_trans (below_size HB.out) (below_size hb))))); have HBK := Lib.hid (hbk.below n2); have HK := Lib.hid n0; have HS := Lib.hid n1; have HMW := Lib.hid hm; clear hb hbk c0 c1 n0 n1 n2 n3 hm; obtain ⟨c0, c1⟩ : ((w2.alloc (.cells #[.slice PA P.length pc, .slice QA Q.length qc, .map (some m)] 84)).alloc (.cells #[.int .i64 i', .int .i64 p', .int .i64 a'] 87)).cell? ⟨w.heap.size, 0, none⟩ = some (.slice PA P.length pc) ∧ ((w2.alloc (.cells #[.slice PA P.length pc, .slice QA Q.length qc, .map (some m)] 84)).alloc (.cells #[.int .i64 i', .int .i64 p', .int .i64 a'] 87)).cell? ⟨w.heap.size, 1, none⟩ = some (.slice QA Q.length qc) := ⟨blk_cell HX.out 0, blk_cell HX.out 1⟩; obtain ⟨k0, k1, k2⟩ : ((w2.alloc (.cells #[.slice PA P.length pc, .slice QA Q.length qc, .map (some m)] 84)).alloc (.cells #[.int .i64 i', .int .i64 p', .int .i64 a'] 87)).cell? ⟨w2.heap.size, 0, none⟩ = some (.slice PA P.length pc) ∧ ((w2.alloc (.cells #[.slice PA P.length pc, .slice QA Q.length qc, .map (some m)] 84)).alloc (.cells #[.int .i64 i', .int .i64 p', .int .i64 a'] 87)).cell? ⟨w2.heap.size, 1, none⟩ = some (.slice QA Q.length qc) ∧ ((w2.alloc (.cells #[.slice PA P.length pc, .slice QA Q.length qc, .map (some m)] 84)).alloc (.cells #[.int .i64 i', .int .i64 p', .int .i64 a'] 87)).cell? ⟨w2.heap.size, 2, none⟩ = some (.map (some m)) := ⟨blk_cell HK.out 0, blk_cell HK.out 1, blk_cell HK.out 2⟩; obtain ⟨s0, s1, s2⟩ : ((w2.alloc (.cells #[.slice PA P.length pc, .slice QA Q.length qc, .map (some m)] 84)).alloc (.cells #[.int .i64 i', .int .i64 p', .int .i64 a'] 87)).cell? ⟨w2.heap.size + 1, 0, none⟩ = some (.int .i64 i') ∧ ((w2.alloc (.cells #[.slice PA P.length pc, .slice QA Q.length qc, .map (some m)] 84)).alloc (.cells #[.int .i64 i', .int .i64 p', .int .i64 a'] 87)).cell? ⟨w2.heap.size + 1, 1, none⟩ = some (.int .i64 p') ∧ ((w2.alloc (.cells #[.slice PA P.length pc, .slice QA Q.length qc, .map (some m)] 84)).alloc (.cells #[.int .i64 i', .int .i64 p', .int .i64 a'] 87)).cell? ⟨w2.heap.size + 1, 2, none⟩ = some (.int .i64 a') := ⟨blk_cell HS.out 0, blk_cell HS.out 1, blk_cell HS.out 2⟩) | (go_at_call 61; (with_reducible refine (HCL.out _ HP.out HQ.out).mono ?_); rintro e w3 ⟨rfl, hb⟩; have HX := Lib.hid (below_far HX.out hb); have HP := Lib.hid (Kd.C_below HP.out hb); have HQ := Lib.hid (Kd.C_below HQ.out hb); have HB := Lib.hid (HB.out.trans (hb.mono (below_size HB.out))); have HBK := Lib.hid (HBK.out.below hb); have HK := Lib.hid (below_far HK.out hb); have HS := Lib.hid (below_far HS.out hb); clear hb c0 c1 k0 k1 k2 s0 s1 s2; obtain ⟨c0, c1⟩ : w3.cell? ⟨w.heap.size, 0, none⟩ = some (.slice PA P.length pc) ∧ w3.cell? ⟨w.heap.size, 1, none⟩ = some (.slice QA Q.length qc) := ⟨blk_cell HX.out 0, blk_cell HX.out 1⟩; obtain ⟨k0, k1, k2⟩ : w3.cell? ⟨w2.heap.size, 0, none⟩ = some (.slice PA P.length pc) ∧ w3.cell? ⟨w2.heap.size, 1, none⟩ = some (.slice QA Q.length qc) ∧ w3.cell? ⟨w2.heap.size, 2, none⟩ = some (.map (some m)) := ⟨blk_cell HK.out 0, blk_cell HK.out 1, blk_cell HK.out 2⟩; obtain ⟨s0, s1, s2⟩ : w3.cell? ⟨w2.heap.size + 1, 0, none⟩ = some (.int .i64 i') ∧ w3.cell? ⟨w2.heap.size + 1, 1, none⟩ = some (.int .i64 p') ∧ w3.cell? ⟨w2.heap.size + 1, 2, none⟩ = some (.int .i64 a') := ⟨blk_cell HS.out 0, blk_cell HS.out 1, blk_cell HS.out 2⟩) | (go_at_call 62; (with_reducible refine (HCA.out _ HP.out HQ.out).mono ?_); rintro e w5 ⟨rfl, hb⟩; have HX := Lib.hid (below_far HX.out hb); have HP := Lib.hid (Kd.C_below HP.out hb); have HQ := Lib.hid (Kd.C_below HQ.out hb); have HB := Lib.hid (HB.out.trans (hb.mono (below_size HB.out))); have HBK := Lib.hid (HBK.out.below hb); have HK := Lib.hid (below_far HK.out hb); have HS := Lib.hid (below_far HS.out hb); clear hb c0 c1 k0 k1 k2 s0 s1 s2; obtain ⟨c0, c1⟩ : w5.cell? ⟨w.heap.size, 0, none⟩ = some (.slice PA P.length pc) ∧ w5.cell? ⟨w.heap.size, 1, none⟩ = some (.slice QA Q.length qc) := ⟨blk_cell HX.out 0, blk_cell HX.out 1⟩; obtain ⟨k0, k1, k2⟩ : w5.cell? ⟨w2.heap.size, 0, none⟩ = some (.slice PA P.length pc) ∧ w5.cell? ⟨w2.heap.size, 1, none⟩ = some (.slice QA Q.length qc) ∧ w5.cell? ⟨w2.heap.size, 2, none⟩ = some (.map (some m)) := ⟨blk_cell HK.out 0, blk_cell HK.out 1, blk_cell HK.out 2⟩; obtain ⟨s0, s1, s2⟩ : w5.cell? ⟨w2.heap.size + 1, 0, none⟩ = some (.int .i64 i') ∧ w5.cell? ⟨w2.heap.size + 1, 1, none⟩ = some (.int .i64 p') ∧ w5.cell? ⟨w2.heap.size + 1, 2, none⟩ = some (.int .i64 a') := ⟨blk_cell HS.out 0, blk_cell HS.out 1, blk_cell HS.out 2⟩) | (go_at_call 63; (with_reducible refine (HLI.out _ _ HP.out HQ.out).mono ?_); rintro e w6 ⟨rfl, hb⟩; have HX := Lib.hid (below_far HX.out hb); have HP := Lib.hid (Kd.C_below HP.out hb); have HQ := Lib.hid (Kd.C_below HQ.out hb); have HB := Lib.hid (HB.out.trans (hb.mono (below_size HB.out))); have HBK := Lib.hid (HBK.out.below hb); have HK := Lib.hid (below_far HK.out hb); have HS := Lib.hid (below_far HS.out hb); clear hb c0 c1 k0 k1 k2 s0 s1 s2; obtain ⟨c0, c1⟩ : w6.cell? ⟨w.heap.size, 0, none⟩ = some (.slice PA P.length pc) ∧ w6.cell? ⟨w.heap.size, 1, none⟩ = some (.slice QA Q.length qc) := ⟨blk_cell HX.out 0, blk_cell HX.out 1⟩; obtain ⟨k0, k1, k2⟩ : w6.cell? ⟨w2.heap.size, 0, none⟩ = some (.slice PA P.length pc) ∧ w6.cell? ⟨w2.heap.size, 1, none⟩ = some (.slice QA Q.length qc) ∧ w6.cell? ⟨w2.heap.size, 2, none⟩ = some (.map (some m)) := ⟨blk_cell HK.out 0, blk_cell HK.out 1, blk_cell HK.out 2⟩; obtain ⟨s0, s1, s2⟩ : w6.cell? ⟨w2.heap.size + 1, 0, none⟩ = some (.int .i64 i') ∧ w6.cell? ⟨w2.heap.size + 1, 1, none⟩ = some (.int .i64 p') ∧ w6.cell? ⟨w2.heap.size + 1, 2, none⟩ = some (.int .i64 a') := ⟨blk_cell HS.out 0, blk_cell HS.out 1, blk_cell HS.out 2⟩) | (go_at_call 64; (with_reducible refine (HCN.out _ _ HBK.out).mono ?_); rintro e w7 ⟨rfl, hbk7, hg7⟩))
          exact bodyPost_ret (results_tmp2 rfl _ _ _) rfl ⟨rfl, grown_Below HB.out HMW.out hg7⟩
def fewestZ (P : List S48) (Q : List S50) : Bool × List Nat := bestTo betterL (fun s => cutB P Q (setL s) (2 ^ Q.length - 1)) (2 ^ P.length)
def fewestP (P : List S48) (Q : List S50) : List Int × Int := if validB P Q then if (fewestZ P Q).1 then (ints (fewestZ P Q).2, 0) else ([], 4) else ([], 10)
set_option maxRecDepth 100000 in
set_option maxHeartbeats 1000000 in
theorem calls_Fewest (PA : Option Addr) (pc : Nat) (P : List S48) (QA : Option Addr) (qc : Nat) (Q : List S50) (w : World) (hP : Kd.C k48 w PA P.length P) (hpc : P.length ≤ pc) (hQ : Kd.C k50 w QA Q.length Q) (hqc : Q.length ≤ qc) (hG : Glob w) :
    Calls Tryd.prog 28 #[.agg #[.slice PA P.length pc, .slice QA Q.length qc]] w fun e w' => ∃ v, e = .returned (.tuple #[v, .int .i64 (fewestP P Q).2]) ∧ Kd.V (Kd.int .i64) 3 w' w.heap.size (fun k => w.heap.size ≤ k) v (fewestP P Q).1 ∧ Below w.heap.size w w' := by
  obtain ⟨n0, n1, n2⟩ := new1 w (.cells #[.slice PA P.length pc, .slice QA Q.length qc] 25)
  have HP := Lib.hid (Kd.C_below hP n1); have HQ := Lib.hid (Kd.C_below hQ n1); have HG := Lib.hid (hG.below n1); have HX := Lib.hid n0; have HB := Lib.hid n1
  clear n0 n1 n2 hP hQ hG
  cases hv : validB P Q with
  | false =>
    have hck := checkP_no hv
    rw [show fewestP P Q = ([], 10) from by unfold fewestP; rw [hv]; rfl]
    go_enter Tryd.func28, Tryd.ntmps28
    go_wp2_with (go_at_call 18; (with_reducible refine (calls_Check PA pc P QA qc Q _ HP.out hpc HQ.out hqc).mono ?_); rintro e w1 ⟨he, hb⟩; rw [hck] at he; subst he; have HB := Lib.hid (HB.out.trans (hb.mono (below_size HB.out))))
    exact bodyPost_ret (results_tmp2 rfl _ _ _) rfl ⟨_, rfl, Kd.V_nil _ _ _ _ _, HB.out⟩
  | true =>
    have hck := checkP_yes hv
    have hok := valid_ok hv
    have hfd : fewestP P Q = if (fewestZ P Q).1 then (ints (fewestZ P Q).2, 0) else ([], 4) := by unfold fewestP; rw [hv]; rfl
    rw [hfd]
    clear hv hfd
    obtain ⟨fnd, best, hz⟩ : ∃ fnd best, fewestZ P Q = (fnd, best) := ⟨_, _, rfl⟩
    rw [hz]
    have HZ := Lib.hid (show bestTo betterL (fun s => cutB P Q (setL s) (2 ^ Q.length - 1)) (2 ^ P.length) = (fnd, best) from hz)
    clear hz
    go_enter Tryd.func28, Tryd.ntmps28
    go_wp2_with (first | (go_at_call 18; (with_reducible refine (calls_Check PA pc P QA qc Q _ HP.out hpc HQ.out hqc).mono ?_); rintro e w1 ⟨he, hb⟩; rw [hck] at he; subst he; have HP := Lib.hid (Kd.C_below HP.out hb); have HQ := Lib.hid (Kd.C_below HQ.out hb); have HG := Lib.hid (HG.out.below hb); have HX := Lib.hid (below_far HX.out hb); have HB := Lib.hid (HB.out.trans (hb.mono (below_size HB.out))); obtain ⟨c0, c1⟩ : w1.cell? ⟨w.heap.size, 0, none⟩ = some (.slice PA P.length pc) ∧ w1.cell? ⟨w.heap.size, 1, none⟩ = some (.slice QA Q.length qc) := ⟨blk_cell HX.out 0, blk_cell HX.out 1⟩; clear hb) | (go_at_call 60; (with_reducible refine (calls_opened PA pc QA qc P Q _ HG.out HP.out HQ.out).mono ?_); rintro e w2 ⟨m, rfl, hbk, hm, hb⟩; have hm := Nat.le_trans (below_size HB.out) hm; have HX := Lib.hid (below_far HX.out hb); have HB := Lib.hid (HB.out.trans (hb.mono (below_size HB.out))); have HBK := Lib.hid hbk; clear hb hbk c0 c1))
    obtain ⟨n0, n1, n2⟩ := new1 w2 (.cells #[.slice PA P.length pc, .slice QA Q.length qc, .map (some m)] 84)
    have HX := Lib.hid (below_far HX.out n1)
    have HI := Lib.hid (show InvA PA pc QA qc m P Q w2.heap.size (w2.alloc (.cells #[.slice PA P.length pc, .slice QA Q.length qc, .map (some m)] 84)) from ⟨HBK.out.below n1, n0⟩)
    have HB := Lib.hid (HB.out.trans (n1.mono (below_size HB.out)))
    clear n0 n1 n2 HBK
    generalize w2.alloc (.cells #[.slice PA P.length pc, .slice QA Q.length qc, .map (some m)] 84) = W at HX HI HB ⊢
    have c0 : W.cell? ⟨w.heap.size, 0, none⟩ = some (.slice PA P.length pc) := blk_cell HX.out 0
    have HCB := Lib.hid (fun W' hI hm => calls_best 109 betterL better_few 83 #[.pointer (some ⟨w2.heap.size, 0, none⟩)] m P.length (by have := hok.p3; omega) _ _ (asks_Fewest1 (PA := PA) (pc := pc) (QA := QA) (qc := qc) hok w2.heap.size) W' hI hm)
    rw [HZ.out] at HCB
    clear HZ
    refine start_ (n := 11) (S := fun w' => w'.cell? ⟨w.heap.size, 0, none⟩ = some (.slice PA P.length pc)) (ds := [5]) #[false, false, false, false, false, false, false, false, false, false, false] (by kernel_rfl) rfl rfl (c0) (fun hHeld => ?_)
    refine pu_ (i := 1) (N := some 17) (qa_ 11 2) ?_
    refine pu_ (i := 4) (N := some 20) (qa_ 11 18) ?_
    refine tk_ (i := 2) (N := some 18) (qa_ 11 22) hHeld ?_
    refine pu_ (i := 3) (N := some 19) (qa_ 11 30) ?_
    refine on_ (i := 0) (N := some 16) (qa_ 11 31) (fun K hK => ?_)
    refine goes_ Tryd.func81 (by kernel_rfl) rfl #[] (by rfl) rfl rfl (by first | (simp; done) | (simp only [List.map_toArray, List.map_cons, List.map_nil]; rfl)) ?_
    with_reducible refine (calls_few _).mono ?_
    rintro e w3 ⟨rfl, hb1⟩
    have hb2 : Below W.heap.size W w3 := undrew hb1
    refine ⟨_, rfl, ?_⟩
    refine hK.out _ _ (pw_cell_below hb2 c0) (fun hHeld => ?_)
    clear hK K
    refine nm_ (some 16) ?_
    refine last_ (i := 5) (N := some 21) (qa_ 11 63) rfl rfl (by kernel_rfl) (by decide) (fun K hK => ?_)
    refine goes_ Tryd.func82 (by kernel_rfl) rfl #[.agg #[.func (.func 109) #[] #[]], .int .i64 P.length, .func (.func 83) #[] #[.pointer (some ⟨w2.heap.size, 0, none⟩)]] (by rfl) rfl rfl (by first | (simp; done) | (simp only [List.map_toArray, List.map_cons, List.map_nil]; rfl)) ?_
    with_reducible refine (HCB.out w3 (HI.out.below hb2) (HI.out.below hb2).bk.lt).mono ?_
    rintro e w4 ⟨v4, rfl, hv4, hi4, hg4⟩
    refine ⟨_, rfl, ?_⟩
    refine hK.out _ _ ?_
    clear hK K
    refine nm_ (some 21) ?_
    refine pu_ (i := 6) (N := some 15) (qa_ 11 127) ?_
    refine pu_ (i := 7) (N := some 22) (qa_ 11 255) ?_
    refine pu_ (i := 8) (N := some 23) (qa_ 11 511) ?_
    refine pu_ (i := 9) (N := some 6) (qa_ 11 1023) ?_
    refine pu_ (i := 10) (N := some 7) (qa_ 11 2047) ?_
    refine done_ (by kernel_rfl) ?_
    clear hHeld
    have hbb : Below w.heap.size w w3 := HB.out.trans (hb2.mono (below_size HB.out))
    have HV4 := Lib.hid hv4; have HG4 := Lib.hid hg4; have HBB := Lib.hid hbb; have HMW := Lib.hid hm
    clear hv4 hi4 hg4 hbb hb1 hb2 c0 hm
    cases fnd with
    | false =>
      go_wp2_with fail
      exact bodyPost_ret (results_tmp2 rfl _ _ _) rfl ⟨_, rfl, Kd.V_nil _ _ _ _ _, grown_Below HBB.out HMW.out HG4.out⟩
    | true =>
      go_wp2_with fail
      obtain ⟨A, c, rfl, h6, h7, h8⟩ := HV4.out
      refine bodyPost_ret (results_tmp2 rfl _ _ _) rfl ⟨_, rfl, ?_, grown_Below HBB.out HMW.out HG4.out⟩
      exact (show VI w.heap.size w4 (.slice A (ints best).length c) (ints best) from ⟨A, c, rfl, h6, h7, fun ad e => Nat.le_trans (below_size HBB.out) (h8 ad e)⟩).V
def lackB (P : List S48) (Q : List S50) (n : Nat) : Bool := !cutB P Q (setL (2 ^ P.length - 1)) (2 ^ (n + 1) - 1)
def lacksR : Option Nat → Int × Int
  | some n => ((n : Int), 0)
  | none => (0, 4)
def lacksP (P : List S48) (Q : List S50) : Int × Int := if validB P Q then lacksR ((List.range Q.length).find? (lackB P Q)) else (0, 10)
theorem lack_nums (n1 N : Nat) (h5 : n1 ≤ 5) (hN : n1 ≤ N) : ∃ u t : Nat, 2 ^ n1 - 1 = t ∧ (∀ W : World, (Op.shift BinOp.shl IntKind.i64 1 IntKind.i64 (wrap64 (n1 : Int))).run Tryd.prog W = .ok (.int .i64 u) W) ∧ wrap64 ((u : Int) - 1) = (t : Int) ∧ t < 2 ^ N := by
  have h2 := pow_int n1 h5
  have h3 := pow_small n1 h5
  have h4 : 2 ^ n1 ≤ 2 ^ N := Nat.pow_le_pow_right (by omega) hN
  generalize 2 ^ N = z at h4 ⊢
  generalize 2 ^ n1 = u at h2 h3 h4 ⊢
  refine ⟨u, u - 1, rfl, fun W => ?_, by unfold wrap64; omega, by omega⟩
  have hw1 : wrap64 (n1 : Int) = (n1 : Int) := by unfold wrap64; omega
  rw [hw1]
  go_simp
  rw [i64_w]
  exact h2
theorem find_at {f : Nat → Bool} {n k : Nat} (hk : k < n) (h : ∀ j, j < k → f j = false) (hf : f k = true) : (List.range n).find? f = some k := by
  rw [List.find?_range_eq_some]
  exact ⟨hf, by simpa using hk, fun j hj => by rw [h j hj]; rfl⟩
theorem find_no {f : Nat → Bool} {n : Nat} (h : ∀ j, j < n → f j = false) : (List.range n).find? f = none := by
  rw [List.find?_eq_none]
  intro x hx
  rw [h x (List.mem_range.1 hx)]
  simp
set_option maxRecDepth 100000 in
set_option maxHeartbeats 1000000 in
theorem calls_Lacks (PA : Option Addr) (pc : Nat) (P : List S48) (QA : Option Addr) (qc : Nat) (Q : List S50) (w : World) (hP : Kd.C k48 w PA P.length P) (hpc : P.length ≤ pc) (hQ : Kd.C k50 w QA Q.length Q) (hqc : Q.length ≤ qc) (hG : Glob w) :
    Calls Tryd.prog 30 #[.agg #[.slice PA P.length pc, .slice QA Q.length qc]] w fun e w' => e = .returned (.tuple #[.int .i64 (lacksP P Q).1, .int .i64 (lacksP P Q).2]) ∧ Below w.heap.size w w' := by
  obtain ⟨n0, n1, n2⟩ := new1 w (.cells #[.slice PA P.length pc, .slice QA Q.length qc] 25)
  have HP := Lib.hid (Kd.C_below hP n1); have HQ := Lib.hid (Kd.C_below hQ n1); have HG := Lib.hid (hG.below n1); have HX := Lib.hid n0; have HB := Lib.hid n1
  clear n0 n1 n2 hP hQ hG
  cases hv : validB P Q with
  | false =>
    have hck := checkP_no hv
    rw [show lacksP P Q = (0, 10) from by unfold lacksP; rw [hv]; rfl]
    go_enter Tryd.func30, Tryd.ntmps30
    go_wp2_with (go_at_call 18; (with_reducible refine (calls_Check PA pc P QA qc Q _ HP.out hpc HQ.out hqc).mono ?_); rintro e w1 ⟨he, hb⟩; rw [hck] at he; subst he; have HB := Lib.hid (HB.out.trans (hb.mono (below_size HB.out))))
    exact bodyPost_ret (results_tmp2 rfl _ _ _) rfl ⟨rfl, HB.out⟩
  | true =>
    have hck := checkP_yes hv
    have hok := valid_ok hv
    have hfd : lacksP P Q = lacksR ((List.range Q.length).find? (lackB P Q)) := by unfold lacksP; rw [hv]; rfl
    rw [hfd]
    clear hv hfd
    have hp5 : P.length ≤ 5 := by have := hok.p3; omega
    have hcp := fun m W => calls_planks PA P.length pc QA Q.length qc m hp5 W
    have hcc := fun m s hs A c W hB hC hc => bk_cut (pc := pc) (qc := qc) (PA := PA) (QA := QA) (m := m) hok (2 ^ P.length - 1) (by have := pow_small _ hp5; omega) s hs A c W hB hC hc
    have hlk : ∀ n, lackB P Q n = !cutB P Q (setL (2 ^ P.length - 1)) (2 ^ (n + 1) - 1) := fun n => rfl
    obtain ⟨q, hq⟩ : ∃ q : Nat, 2 ^ P.length - 1 = q := ⟨_, rfl⟩
    rw [hq] at hcp hcc hlk
    clear hq
    have HCP := Lib.hid hcp; have HCC := Lib.hid hcc; have HLK := Lib.hid hlk
    clear hcp hcc hlk
    have hq5 := hok.q5
    go_enter Tryd.func30, Tryd.ntmps30
    go_wp2_with (first | (go_at_call 18; (with_reducible refine (calls_Check PA pc P QA qc Q _ HP.out hpc HQ.out hqc).mono ?_); rintro e w1 ⟨he, hb⟩; rw [hck] at he; subst he; have HP := Lib.hid (Kd.C_below HP.out hb); have HQ := Lib.hid (Kd.C_below HQ.out hb); have HG := Lib.hid (HG.out.below hb); have HX := Lib.hid (below_far HX.out hb); have HB := Lib.hid (HB.out.trans (hb.mono (below_size HB.out))); obtain ⟨c0, c1⟩ : w1.cell? ⟨w.heap.size, 0, none⟩ = some (.slice PA P.length pc) ∧ w1.cell? ⟨w.heap.size, 1, none⟩ = some (.slice QA Q.length qc) := ⟨blk_cell HX.out 0, blk_cell HX.out 1⟩; clear hb) | (go_at_call 60; (with_reducible refine (calls_opened PA pc QA qc P Q _ HG.out HP.out HQ.out).mono ?_); rintro e w2 ⟨m, rfl, hbk, hm, hb⟩; have hm := Nat.le_trans (below_size HB.out) hm; have hx := below_far HX.out hb; have hxl := blk_lt hx; have HX := Lib.hid hx; have HB := Lib.hid (HB.out.trans (hb.mono (below_size HB.out))); have HBK := Lib.hid hbk; clear hb hbk c0 c1; have c1 : w2.cell? ⟨w.heap.size, 1, none⟩ = some (.slice QA Q.length qc) := blk_cell hx 1; clear hx))
    obtain ⟨n0, n1, n2⟩ := new1 w2 (.cells #[.slice PA P.length pc, .slice QA Q.length qc, .map (some m)] 84)
    have HI := Lib.hid (show InvA PA pc QA qc m P Q w2.heap.size (w2.alloc (.cells #[.slice PA P.length pc, .slice QA Q.length qc, .map (some m)] 84)) from ⟨HBK.out.below n1, n0⟩)
    have HB := Lib.hid (HB.out.trans (n1.mono (below_size HB.out)))
    clear n0 n1 n2 HBK HX HP HQ HG c1 hxl
    generalize w2.alloc (.cells #[.slice PA P.length pc, .slice QA Q.length qc, .map (some m)] 84) = W at HI HB ⊢
    have HMW := Lib.hid hm; clear hm
    go_loopw [17] (fun v wr => ∃ n : Nat, n ≤ Q.length ∧ v = .int .i64 n ∧ (∀ j, j < n → lackB P Q j = false) ∧ Hid (InvA PA pc QA qc m P Q w2.heap.size wr) ∧ Hid (Below w.heap.size w wr)) (fun v _ => Q.length - (intOf v).toNat)
    case atStart => exact ⟨0, Nat.zero_le _, rfl, (fun j hj => absurd hj (by omega)), HI, HB⟩
    case round =>
      clear HI HB
      obtain ⟨n, hn, rfl, hno, HI, HB⟩ := hrel
      by_cases hlt : n < Q.length
      · obtain ⟨n1, hn1⟩ : ∃ n1, n + 1 = n1 := ⟨_, rfl⟩
        have hn1' : (n : Int) + 1 = (n1 : Int) := by omega
        have hlk := HLK.out n
        rw [hn1] at hlk
        have h5 : n1 ≤ 5 := by omega
        obtain ⟨u, t, ht, hsh, hsb, hs⟩ := lack_nums n1 Q.length h5 (by omega)
        have hcut := fun A c W hB hC hc => HCC.out m t hs A c W hB hC hc
        rw [ht] at hlk
        clear h5
        obtain ⟨r, hr⟩ : ∃ r, cutB P Q (setL q) t = r := ⟨_, rfl⟩
        rw [hr] at hcut hlk
        rw [← hsb] at hcut
        have HCUT := Lib.hid hcut; have HL := Lib.hid hlk
        clear hcut hlk hs ht hr
        obtain ⟨b0, b1, b2⟩ : wr.cell? ⟨w2.heap.size, 0, none⟩ = some (.slice PA P.length pc) ∧ wr.cell? ⟨w2.heap.size, 1, none⟩ = some (.slice QA Q.length qc) ∧ wr.cell? ⟨w2.heap.size, 2, none⟩ = some (.map (some m)) := ⟨blk_cell HI.out.2 0, blk_cell HI.out.2 1, blk_cell HI.out.2 2⟩
        go_wp2_with fail
        refine start_ (n := 9) (S := fun w' => w'.cell? ⟨w2.heap.size, 0, none⟩ = some (.slice PA P.length pc) ∧ w'.cell? ⟨w2.heap.size, 1, none⟩ = some (.slice QA Q.length qc) ∧ w'.cell? ⟨w2.heap.size, 2, none⟩ = some (.map (some m))) (ds := [7]) #[false, false, false, false, false, false, false, false, false] (by kernel_rfl) rfl rfl ⟨b0, b1, b2⟩ (fun hHeld => ?_)
        refine pu_ (i := 1) (N := some 21) (qa_ 9 2) ?_
        refine pu_ (i := 2) (N := some 22) (qa_ 9 6) ?_
        refine pu_ (i := 3) (N := some 23) (qa_ 9 14) ?_
        refine pu_ (i := 4) (N := some 24) (qa_ 9 30) ?_
        refine tk_ (i := 0) (N := some 20) (qa_ 9 31) hHeld ?_
        refine tk_ (i := 5) (N := some 25) (qa_ 9 63) hHeld ?_
        refine on_ (i := 6) (N := some 26) (qa_ 9 127) (fun K hK => ?_)
        refine goes_ Tryd.func90 (by kernel_rfl) rfl #[.agg #[.slice PA P.length pc, .slice QA Q.length qc, .map (some m)]] (by rfl) rfl rfl (by first | (simp; done) | (simp only [List.map_toArray, List.map_cons, List.map_nil]; rfl)) ?_
        with_reducible refine (HCP.out _ _).mono ?_
        rintro e w5 ⟨v5, rfl, hv5, hb3⟩
        have hb4 : Below wr.heap.size wr w5 := undrew hb3
        obtain ⟨A5, c5, rfl, hl5, hC5, -⟩ := hv5
        refine ⟨_, rfl, ?_⟩
        refine hK.out _ _ ⟨pw_cell_below hb4 b0, pw_cell_below hb4 b1, pw_cell_below hb4 b2⟩ (fun hHeld => ?_)
        clear hK K
        refine nm_ (some 26) ?_
        refine last_ (i := 7) (N := some 27) (qa_ 9 255) rfl rfl (by kernel_rfl) (by decide) (fun K hK => ?_)
        refine goes_ Tryd.func84 (by kernel_rfl) rfl #[.agg #[.slice PA P.length pc, .slice QA Q.length qc, .map (some m)], .int .i64 (wrap64 ((u : Int) - 1)), .slice A5 (ints (setL q)).length c5] (by rfl) rfl rfl (by first | (simp; done) | (simp only [List.map_toArray, List.map_cons, List.map_nil]; rfl)) ?_
        with_reducible refine (HCUT.out A5 c5 w5 (HI.out.bk.below hb4) hC5 hl5).mono ?_
        rintro e w6 ⟨rfl, hbk6, hg6⟩
        refine ⟨_, rfl, ?_⟩
        refine hK.out _ _ ?_
        clear hK K
        refine nm_ (some 27) ?_
        refine pu_ (i := 8) (N := some 28) (qa_ 9 511) ?_
        refine done_ (by kernel_rfl) ?_
        clear hHeld b0 b1 b2
        have HI6 := Lib.hid (show InvA PA pc QA qc m P Q w2.heap.size w6 from ⟨hbk6, blk_grownM (HI.out.below hb4).2 (HI.out.below hb4).bk.is hg6⟩)
        have HB6 := Lib.hid (grown_Below (HB.out.trans (hb4.mono (below_size HB.out))) HMW.out hg6)
        clear hbk6 hg6 hb4 hb3 hC5
        cases r with
        | true =>
          go_wp2_with fail
          go_roundw
          case rel => exact ⟨n + 1, by omega, by first | (rw [hn1]; done) | (rw [hn1]; rfl) | go_num, (fun j hj => by
            rcases Nat.lt_succ_iff_lt_or_eq.1 hj with h | h
            · exact hno j h
            · subst h; exact HL.out), HI6, HB6⟩
          case measure => simp [intOf]; omega
        | false =>
          have hfn := find_at hlt hno HL.out
          have HFN := Lib.hid hfn; clear hfn
          go_wp2_with fail
          rw [HFN.out]
          exact bodyPost_ret (results_tmp2 rfl _ _ _) rfl ⟨rfl, HB6.out⟩
      · obtain rfl : n = Q.length := by omega
        have HFN := Lib.hid (find_no hno)
        go_wp2_with fail
        rw [HFN.out]
        exact bodyPost_ret (results_tmp2 rfl _ _ _) rfl ⟨rfl, HB.out⟩
def lstep (N : Nat) (z : Bool × Int) (n : Int) : Bool × Int := (z.1 && (inB n N && decide (n > z.2)), n)
def layR : Option (List Nat) → List Int × Int
  | some o => (ints o, 0)
  | none => ([], 4)
def okL (N : Nat) (b : Bool) (ps : List Int) : Bool := (ps.foldl (lstep N) (b, -1)).1
def layP (P : List S48) (Q : List S50) (i : Int) (ps : List Int) : List Int × Int :=
  if validB P Q then if okL Q.length (inB i P.length) ps then layR (laidB (P.getD i.toNat z48) Q (ps.map (·.toNat))) else ([], 11) else ([], 10)
theorem lstep_false (N : Nat) (ps : List Int) : ∀ x, (ps.foldl (lstep N) (false, x)).1 = false := by
  induction ps with
  | nil => intro x; rfl
  | cons a l ih => intro x; exact ih a
theorem lstep_true (N : Nat) : ∀ (ps : List Int) (b : Bool) (last : Int), (ps.foldl (lstep N) (b, last)).1 = true → b = true ∧ ps = ints (ps.map (·.toNat)) ∧ (∀ p ∈ ps.map (·.toNat), p < N ∧ last < (p : Int)) ∧ ps.length ≤ N - (last + 1).toNat
  | [], b, last, h => ⟨h, rfl, fun p hp => absurd hp (by simp), by simp⟩
  | a :: l, b, last, h => by
    obtain ⟨h1, h2, h3, h4⟩ := lstep_true N l _ _ h
    simp only [lstep, Bool.and_eq_true, decide_eq_true_eq] at h1
    obtain ⟨k, rfl, hk⟩ := in_nat h1.2.1
    refine ⟨h1.1, ?_, fun p hp => ?_, ?_⟩
    · rw [List.map_cons, show ints (((k : Int)).toNat :: l.map (·.toNat)) = (k : Int) :: ints (l.map (·.toNat)) from rfl, ← h2]
    · rw [List.map_cons] at hp
      rcases List.mem_cons.1 hp with rfl | hp
      · exact ⟨hk, by simpa using h1.2.2⟩
      · have := h3 p hp
        exact ⟨this.1, by have := h1.2.2; omega⟩
    · simp only [List.length_cons]
      have := h1.2.2
      omega
theorem okL_true {N : Nat} {b : Bool} {ps : List Int} (h : okL N b ps = true) : b = true ∧ ∃ qs : List Nat, ps = ints qs ∧ ps.map (·.toNat) = qs ∧ (∀ p ∈ qs, p < N) ∧ qs.length ≤ N := by
  obtain ⟨h1, h2, h3, h4⟩ := lstep_true N ps b (-1) h
  refine ⟨h1, _, h2, rfl, fun p hp => (h3 p hp).1, ?_⟩
  rw [List.length_map]
  simpa using h4
theorem take_next (ps : List Int) (k : Nat) (h : k < ps.length) : ps.take (k + 1) = ps.take k ++ [rd ps k] := by
  rw [List.take_add_one, show ps[k]? = some (rd ps k) from by simp [rd, h]]; rfl
set_option maxRecDepth 100000 in
set_option maxHeartbeats 1000000 in
theorem calls_Lay (PA : Option Addr) (pc : Nat) (P : List S48) (QA : Option Addr) (qc : Nat) (Q : List S50) (i : Int) (BA : Option Addr) (bc : Nat) (ps : List Int) (w : World) (hP : Kd.C k48 w PA P.length P) (hpc : P.length ≤ pc) (hQ : Kd.C k50 w QA Q.length Q) (hqc : Q.length ≤ qc) (hL : Kd.C (Kd.int .i64) w BA ps.length ps) (hbc : ps.length ≤ bc) (hG : Glob w) :
    Calls Tryd.prog 24 #[.agg #[.slice PA P.length pc, .slice QA Q.length qc], .int .i64 i, .slice BA ps.length bc] w fun e w' => ∃ v, e = .returned (.tuple #[v, .int .i64 (layP P Q i ps).2]) ∧ Kd.V (Kd.int .i64) 3 w' w.heap.size (fun k => w.heap.size ≤ k) v (layP P Q i ps).1 ∧ Below w.heap.size w w' := by
  have hlen : ps.length < 9223372036854775808 := by have := hL.2.1; omega
  obtain ⟨n0, n1, n2⟩ := new1 w (.cells #[.slice PA P.length pc, .slice QA Q.length qc] 25)
  have HP := Lib.hid (Kd.C_below hP n1); have HQ := Lib.hid (Kd.C_below hQ n1); have HL := Lib.hid (Kd.C_below hL n1); have HG := Lib.hid (hG.below n1); have HX := Lib.hid n0; have HB := Lib.hid n1
  clear n0 n1 n2 hP hQ hG hL
  cases hv : validB P Q with
  | false =>
    have hck := checkP_no hv
    rw [show layP P Q i ps = ([], 10) from by unfold layP; rw [hv]; rfl]
    go_enter Tryd.func24, Tryd.ntmps24
    go_wp2_with (go_at_call 18; (with_reducible refine (calls_Check PA pc P QA qc Q _ HP.out hpc HQ.out hqc).mono ?_); rintro e w1 ⟨he, hb⟩; rw [hck] at he; subst he; have HB := Lib.hid (HB.out.trans (hb.mono (below_size HB.out))))
    exact bodyPost_ret (results_tmp2 rfl _ _ _) rfl ⟨_, rfl, Kd.V_nil _ _ _ _ _, HB.out⟩
  | true =>
    have hck := checkP_yes hv
    have hok := valid_ok hv
    have hfd : layP P Q i ps = if okL Q.length (inB i P.length) ps then layR (laidB (P.getD i.toNat z48) Q (ps.map (·.toNat))) else ([], 11) := by unfold layP; rw [hv]; rfl
    obtain ⟨R0, hR0⟩ : ∃ R0, layP P Q i ps = R0 := ⟨_, rfl⟩
    rw [hR0]
    rw [hfd] at hR0
    clear hv hfd
    have hcpl := fun W hPW hQW => calls_isPlank PA pc P QA qc Q i W hPW hpc hQW hqc
    rw [show (decide (0 ≤ i) && decide (i ≤ (P.length : Int) - 1)) = inB i P.length from rfl] at hcpl
    have hcpa := fun p W hPW hQW => calls_isPart PA pc P QA qc Q p W hPW hpc hQW hqc
    obtain ⟨eb, hib⟩ : ∃ eb, inB i P.length = eb := ⟨_, rfl⟩
    rw [hib] at hcpl hR0
    have HR0 := Lib.hid hR0; clear hR0
    have HCL := Lib.hid hcpl
    have HCA := Lib.hid (show ∀ (p : Int) (W : World), Kd.C k48 W PA P.length P → Kd.C k50 W QA Q.length Q → Calls Tryd.prog 62 #[.agg #[.slice PA P.length pc, .slice QA Q.length qc], .int .i64 p] W fun e w' => e = .returned (.bool (inB p Q.length)) ∧ Below W.heap.size W w' from hcpa)
    clear hcpl hcpa
    go_enter Tryd.func24, Tryd.ntmps24
    go_wp2_with (first | (go_at_call 18; (with_reducible refine (calls_Check PA pc P QA qc Q _ HP.out hpc HQ.out hqc).mono ?_); rintro e w1 ⟨he, hb⟩; rw [hck] at he; subst he; have HP := Lib.hid (Kd.C_below HP.out hb); have HQ := Lib.hid (Kd.C_below HQ.out hb); have HL := Lib.hid (Kd.C_below HL.out hb); have HG := Lib.hid (HG.out.below hb); have HX := Lib.hid (below_far HX.out hb); have HB := Lib.hid (HB.out.trans (hb.mono (below_size HB.out))); obtain ⟨c0, c1⟩ : w1.cell? ⟨w.heap.size, 0, none⟩ = some (.slice PA P.length pc) ∧ w1.cell? ⟨w.heap.size, 1, none⟩ = some (.slice QA Q.length qc) := ⟨blk_cell HX.out 0, blk_cell HX.out 1⟩; clear hb) | (go_at_call 61; (with_reducible refine (HCL.out _ HP.out HQ.out).mono ?_); rintro e w2 ⟨rfl, hb⟩; have HP := Lib.hid (Kd.C_below HP.out hb); have HQ := Lib.hid (Kd.C_below HQ.out hb); have HL := Lib.hid (Kd.C_below HL.out hb); have HG := Lib.hid (HG.out.below hb); have HX := Lib.hid (below_far HX.out hb); have HB := Lib.hid (HB.out.trans (hb.mono (below_size HB.out))); clear hb c0 c1))
    go_loopw [9, 10, 25] (fun v9 v10 v wr => ∃ k : Nat, k ≤ ps.length ∧ v = .int .i64 k ∧ v9 = .bool ((ps.take k).foldl (lstep Q.length) (eb, -1)).1 ∧ v10 = .int .i64 ((ps.take k).foldl (lstep Q.length) (eb, -1)).2 ∧ Hid (Kd.C k48 wr PA P.length P) ∧ Hid (Kd.C k50 wr QA Q.length Q) ∧ Hid (Kd.C (Kd.int .i64) wr BA ps.length ps) ∧ Hid (Glob wr) ∧ Hid (wr.heap[w.heap.size]? = some (.cells #[.slice PA P.length pc, .slice QA Q.length qc] 25 (0, 0))) ∧ Hid (Below w.heap.size w wr)) (fun _ _ v _ => ps.length - (intOf v).toNat)
    case atStart => exact ⟨0, Nat.zero_le _, rfl, rfl, rfl, HP, HQ, HL, HG, HX, HB⟩
    case round =>
      clear HP HQ HL HG HX HB
      obtain ⟨k, hk, rfl, rfl, rfl, HP, HQ, HL, HG, HX, HB⟩ := hrel
      obtain ⟨ok, last, hz⟩ : ∃ ok last, (ps.take k).foldl (lstep Q.length) (eb, -1) = (ok, last) := ⟨_, _, rfl⟩
      rw [hz]
      simp only
      by_cases hlt : k < ps.length
      · obtain ⟨ad, rfl, hcell⟩ := at_nat HL.out k hlt
        obtain ⟨x, hx⟩ : ∃ x, rd ps k = x := ⟨_, rfl⟩
        have hnx : (ps.take (k + 1)).foldl (lstep Q.length) (eb, -1) = (ok && (inB x Q.length && decide (x > last)), x) := by
          rw [take_next ps k hlt, List.foldl_append, hz, hx]; rfl
        rw [hx] at hcell
        obtain ⟨c0, c1⟩ : wr.cell? ⟨w.heap.size, 0, none⟩ = some (.slice PA P.length pc) ∧ wr.cell? ⟨w.heap.size, 1, none⟩ = some (.slice QA Q.length qc) := ⟨blk_cell HX.out 0, blk_cell HX.out 1⟩
        obtain ⟨ib, hib2⟩ : ∃ ib, inB x Q.length = ib := ⟨_, rfl⟩
        rw [hib2] at hnx
        have HN := Lib.hid hnx; have HIB := Lib.hid hib2
        clear hnx hz hib2 hx
        cases ok with
        | false =>
          go_wp2_with fail
          go_roundw
          case rel => exact ⟨k + 1, by omega, by go_num, by rw [HN.out]; rfl, by rw [HN.out], HP, HQ, HL, HG, HX, HB⟩
          case measure => simp [intOf]; omega
        | true =>
          cases ib with
          | false =>
            go_wp2_with (go_at_call 62; (with_reducible refine (HCA.out x _ HP.out HQ.out).mono ?_); rintro e w2 ⟨he, hb⟩; rw [HIB.out] at he; subst he; have HP := Lib.hid (Kd.C_below HP.out hb); have HQ := Lib.hid (Kd.C_below HQ.out hb); have HL := Lib.hid (Kd.C_below HL.out hb); have HG := Lib.hid (HG.out.below hb); have HX := Lib.hid (below_far HX.out hb); have HB := Lib.hid (HB.out.trans (hb.mono (below_size HB.out))); clear hb c0 c1 hcell)
            go_roundw
            case rel => exact ⟨k + 1, by omega, by go_num, by rw [HN.out]; rfl, by rw [HN.out], HP, HQ, HL, HG, HX, HB⟩
            case measure => simp [intOf]; omega
          | true =>
            go_wp2_with (go_at_call 62; (with_reducible refine (HCA.out x _ HP.out HQ.out).mono ?_); rintro e w2 ⟨he, hb⟩; rw [HIB.out] at he; subst he; have HP := Lib.hid (Kd.C_below HP.out hb); have HQ := Lib.hid (Kd.C_below HQ.out hb); have HL := Lib.hid (Kd.C_below HL.out hb); have HG := Lib.hid (HG.out.below hb); have HX := Lib.hid (below_far HX.out hb); have HB := Lib.hid (HB.out.trans (hb.mono (below_size HB.out))); clear hb c0 c1 hcell)
            go_roundw
            case rel => exact ⟨k + 1, by omega, by go_num, by rw [HN.out]; rfl, by rw [HN.out], HP, HQ, HL, HG, HX, HB⟩
            case measure => simp [intOf]; omega
      · obtain rfl : k = ps.length := by omega
        rw [List.take_length] at hz
        have hokl : okL Q.length eb ps = ok := by unfold okL; rw [hz]
        clear hz
        cases ok with
        | false =>
          obtain rfl : (([] : List Int), (11 : Int)) = R0 := by have := HR0.out; rw [hokl] at this; exact this
          clear hokl HR0
          go_wp2_with fail
          exact bodyPost_ret (results_tmp2 rfl _ _ _) rfl ⟨_, rfl, Kd.V_nil _ _ _ _ _, HB.out⟩
        | true =>
          obtain ⟨rfl, qs, rfl, hqs, hq1, hq2⟩ := okL_true hokl
          obtain ⟨i', rfl, hi⟩ := in_nat hib
          have hr1 : R0 = layR (laidB (P.getD i' z48) Q qs) := by have := HR0.out; rw [hokl, hqs] at this; exact this.symm
          clear hokl hib HR0 hqs
          obtain ⟨c0, c1⟩ : wr.cell? ⟨w.heap.size, 0, none⟩ = some (.slice PA P.length pc) ∧ wr.cell? ⟨w.heap.size, 1, none⟩ = some (.slice QA Q.length qc) := ⟨blk_cell HX.out 0, blk_cell HX.out 1⟩
          have HLD := Lib.hid (show ∀ (m : Nat) (W : World), Bk PA QA m P Q W → Kd.C (Kd.int .i64) W BA (ints qs).length (ints qs) → Calls Tryd.prog 76 #[.agg #[.slice PA P.length pc, .slice QA Q.length qc, .map (some m)], .int .i64 i', .slice BA (ints qs).length bc] W fun e w' => Bk PA QA m P Q w' ∧ W.grownBy w' (some m) ∧ LayPost W.heap.size (laidB (P.getD i' z48) Q qs) e w' from fun m W hB hC => by
            have h := calls_laid PA pc QA qc m P Q hok i' hi BA bc qs hq1 (by have := hok.q5; omega) W hB hC
            rwa [ints_length])
          obtain ⟨r, hr⟩ : ∃ r, laidB (P.getD i' z48) Q qs = r := ⟨_, rfl⟩
          rw [hr] at HLD hr1
          clear hr
          cases r with
          | none =>
            obtain rfl : R0 = ([], 4) := hr1
            go_wp2_with (first | (go_at_call 60; (with_reducible refine (calls_opened PA pc QA qc P Q _ HG.out HP.out HQ.out).mono ?_); rintro e w3 ⟨m, rfl, hbk, hm, hb⟩; have hm := Nat.le_trans (below_size HB.out) hm; have HL := Lib.hid (Kd.C_below HL.out hb); have HB := Lib.hid (HB.out.trans (hb.mono (below_size HB.out))); have HBK := Lib.hid hbk; clear hb hbk c0 c1) | (go_at_call 76; (with_reducible refine (HLD.out _ _ HBK.out HL.out).mono ?_); rintro e w4 ⟨hbk4, hg4, hp4⟩; obtain ⟨v4, b4, rfl, ht4⟩ := LayPost.told hp4; obtain ⟨rfl, rfl⟩ := ht4))
            exact bodyPost_ret (results_tmp2 rfl _ _ _) rfl ⟨_, rfl, Kd.V_nil _ _ _ _ _, grown_Below HB.out hm hg4⟩
          | some o =>
            obtain rfl : R0 = (ints o, 0) := hr1
            go_wp2_with (first | (go_at_call 60; (with_reducible refine (calls_opened PA pc QA qc P Q _ HG.out HP.out HQ.out).mono ?_); rintro e w3 ⟨m, rfl, hbk, hm, hb⟩; have hm := Nat.le_trans (below_size HB.out) hm; have HL := Lib.hid (Kd.C_below HL.out hb); have HB := Lib.hid (HB.out.trans (hb.mono (below_size HB.out))); have HBK := Lib.hid hbk; clear hb hbk c0 c1) | (go_at_call 76; (with_reducible refine (HLD.out _ _ HBK.out HL.out).mono ?_); rintro e w4 ⟨hbk4, hg4, hp4⟩; obtain ⟨v4, b4, rfl, ht4⟩ := LayPost.told hp4; obtain ⟨rfl, A4, c4, rfl, hl4, hC4, hB4⟩ := ht4; have hlen4 : (ints o).length < 9223372036854775808 := (by have := hC4.2.1; omega); have HC4 := Lib.hid hC4; have HB4 := Lib.hid hB4; clear hC4 hB4))
            refine bodyPost_ret (results_tmp2 rfl _ _ _) rfl ⟨_, rfl, ?_, grown_Below HB.out hm hg4⟩
            exact (vi_of (base := w.heap.size) (Nat.le_refl _) HC4.out (fun ad e => Nat.le_trans (below_size HB.out) (HB4.out ad e))).V
end Go.Proofs.YtekjlpldooihhaaDoorP
namespace Go.Proofs.YtekjlpldooihhaaDoorP
open Go.RowKit Go.Proofs.YtekjlpldooihhaaDoorW.PrintWords Go.Proofs.YtekjlpldooihhaaDoorW.PrintLast Go.Proofs.YtekjlpldooihhaaDoorW.PrintMore Go.Proofs.YtekjlpldooihhaaDoorH Go.Proofs.YtekjlpldooihhaaDoorEv Go.Proofs.YtekjlpldooihhaaDoor.PA
set_option linter.unusedVariables false
set_option linter.unusedSimpArgs false
attribute [local go_sem] Oper.semAt_some
theorem own_weaker {W : World} {n b : Nat} {e : TypeId} {size : Nat} {v : Value} {k : Nat} {xs : List Value} (h : W.ownsRow n e size v k xs) (hb : b ≤ n) : W.ownsRow b e size v k xs := by
  refine ⟨h.1, ?_⟩
  rcases h.2 with h | ⟨g, cap, cur, h1, h2, h3⟩
  · exact .inl h
  · exact .inr ⟨g, cap, cur, h1, Nat.le_trans hb h2, h3⟩
theorem own_far {W : World} {n : Nat} {e : TypeId} {size : Nat} {v : Value} {k j : Nat} {xs : List Value} (h : W.ownsRow n e size v k xs) (hj : j < n) : some j ≠ v.ownBlock := fun e => by
  have := own_base h j (by first | exact e.symm | exact e)
  omega
theorem boxed_app {W w1 : World} {n b B : Nat} {t e : TypeId} {size : Nat} {v v' : Value} {k m : Nat} {xs ys : List Value} {tmp : Obj}
    (hv : Boxed W B t v) (hte : t ≠ e) (hrow : W.ownsRow n e size v k xs) (hn : n ≤ W.heap.size) (hbn : b ≤ n) (hB : b ≤ B)
    (hown' : w1.ownsRow n e size v' m ys) (hgrow : (W.alloc tmp).grownBy w1 v.ownBlock) :
    Boxed w1 B t v ∧ Boxed (w1.setCell ⟨B, 0, none⟩ v') B t v' ∧ (w1.setCell ⟨B, 0, none⟩ v').ownsRow n e size v' m ys ∧ KeepsOthers W (w1.setCell ⟨B, 0, none⟩ v') ∧ Below b W (w1.setCell ⟨B, 0, none⟩ v') ∧ ∀ j, j < n → j ≠ B → (w1.setCell ⟨B, 0, none⟩ v').heap[j]? = W.heap[j]? := by
  obtain ⟨h1, h2, h3, h4, h5⟩ := Boxed.appended hv hte (own_weaker hrow hbn) (Nat.le_trans hbn hn) hB (own_weaker hown' hbn) hgrow
  refine ⟨h1, h2, hown'.kept (grownBy_setCell' w1 B v') (.inr (h1.not_row hte hown').symm), h4, h5, fun j hj hne => ?_⟩
  refine (Below.heap_setCell w1 _ v' j hne).trans ((hgrow.block j (by simp; omega) (own_far hrow hj)).trans ?_)
  exact Below.heap_alloc _ _ _ (by omega)
def spotsP (P : List S48) (Q : List S50) (i p : Int) : List Int × Int :=
  if validB P Q then if inB i P.length && inB p Q.length then (ints (spotsL (P.getD i.toNat z48) (Q.getD p.toNat z50)), 0) else ([], 11) else ([], 10)
set_option maxRecDepth 100000 in
set_option maxHeartbeats 1000000 in
theorem calls_Spots (PA : Option Addr) (pc : Nat) (P : List S48) (QA : Option Addr) (qc : Nat) (Q : List S50) (i p : Int) (w : World) (hP : Kd.C k48 w PA P.length P) (hpc : P.length ≤ pc) (hQ : Kd.C k50 w QA Q.length Q) (hqc : Q.length ≤ qc) (hG : Glob w) :
    Calls Tryd.prog 20 #[.agg #[.slice PA P.length pc, .slice QA Q.length qc], .int .i64 i, .int .i64 p] w fun e w' => ∃ v, e = .returned (.tuple #[v, .int .i64 (spotsP P Q i p).2]) ∧ Kd.V (Kd.int .i64) 3 w' w.heap.size (fun k => w.heap.size ≤ k) v (spotsP P Q i p).1 ∧ Below w.heap.size w w' := by
  have HP0 := Lib.hid hP; have HQ0 := Lib.hid hQ; have HG0 := Lib.hid hG
  obtain ⟨n0, n1, n2⟩ := new1 w (.cells #[.slice PA P.length pc, .slice QA Q.length qc] 25)
  have HP := Lib.hid (Kd.C_below hP n1); have HQ := Lib.hid (Kd.C_below hQ n1); have HG := Lib.hid (hG.below n1); have HX := Lib.hid n0; have HB := Lib.hid n1
  clear n0 n1 n2 hP hQ hG
  cases hv : validB P Q with
  | false =>
    have hck := checkP_no hv
    rw [show spotsP P Q i p = ([], 10) from by unfold spotsP; rw [hv]; rfl]
    go_enter Tryd.func20, Tryd.ntmps20
    go_wp2_with (go_at_call 18; (with_reducible refine (calls_Check PA pc P QA qc Q _ HP.out hpc HQ.out hqc).mono ?_); rintro e w1 ⟨he, hb⟩; rw [hck] at he; subst he; have HB := Lib.hid (HB.out.trans (hb.mono (below_size HB.out))))
    exact bodyPost_ret (results_tmp2 rfl _ _ _) rfl ⟨_, rfl, Kd.V_nil _ _ _ _ _, HB.out⟩
  | true =>
    have hck := checkP_yes hv
    have hok := valid_ok hv
    have hfd : spotsP P Q i p = if inB i P.length && inB p Q.length then (ints (spotsL (P.getD i.toNat z48) (Q.getD p.toNat z50)), 0) else ([], 11) := by unfold spotsP; rw [hv]; rfl
    obtain ⟨R0, hR0⟩ : ∃ R0, spotsP P Q i p = R0 := ⟨_, rfl⟩
    rw [hR0]
    rw [hfd] at hR0
    clear hv hfd
    have hcpl := fun W hPW hQW => calls_isPlank PA pc P QA qc Q i W hPW hpc hQW hqc
    have hcpa := fun W hPW hQW => calls_isPart PA pc P QA qc Q p W hPW hpc hQW hqc
    rw [show (decide (0 ≤ i) && decide (i ≤ (P.length : Int) - 1)) = inB i P.length from rfl] at hcpl
    rw [show (decide (0 ≤ p) && decide (p ≤ (Q.length : Int) - 1)) = inB p Q.length from rfl] at hcpa
    obtain ⟨e1, h1⟩ : ∃ e1, inB i P.length = e1 := ⟨_, rfl⟩
    obtain ⟨e2, h2⟩ : ∃ e2, inB p Q.length = e2 := ⟨_, rfl⟩
    rw [h1] at hcpl
    rw [h2] at hcpa
    rw [h1, h2] at hR0
    have HCL := Lib.hid hcpl; have HCA := Lib.hid hcpa; have HR0 := Lib.hid hR0
    clear hcpl hcpa hR0
    cases e1 with
    | false =>
      obtain rfl : (([] : List Int), (11 : Int)) = R0 := HR0.out
      go_enter Tryd.func20, Tryd.ntmps20
      go_wp2_with (first | (go_at_call 18; (with_reducible refine (calls_Check PA pc P QA qc Q _ HP.out hpc HQ.out hqc).mono ?_); rintro e w1 ⟨he, hb⟩; rw [hck] at he; subst he; have HP := Lib.hid (Kd.C_below HP.out hb); have HQ := Lib.hid (Kd.C_below HQ.out hb); have HG := Lib.hid (HG.out.below hb); have HX := Lib.hid (below_far HX.out hb); have HB := Lib.hid (HB.out.trans (hb.mono (below_size HB.out))); clear hb; obtain ⟨c0, c1⟩ : w1.cell? ⟨w.heap.size, 0, none⟩ = some (.slice PA P.length pc) ∧ w1.cell? ⟨w.heap.size, 1, none⟩ = some (.slice QA Q.length qc) := ⟨blk_cell HX.out 0, blk_cell HX.out 1⟩) | (go_at_call 61; (with_reducible refine (HCL.out _ HP.out HQ.out).mono ?_); rintro e w3 ⟨rfl, hb⟩; have HP := Lib.hid (Kd.C_below HP.out hb); have HQ := Lib.hid (Kd.C_below HQ.out hb); have HG := Lib.hid (HG.out.below hb); have HX := Lib.hid (below_far HX.out hb); have HB := Lib.hid (HB.out.trans (hb.mono (below_size HB.out))); clear hb; obtain ⟨c0, c1⟩ : w3.cell? ⟨w.heap.size, 0, none⟩ = some (.slice PA P.length pc) ∧ w3.cell? ⟨w.heap.size, 1, none⟩ = some (.slice QA Q.length qc) := ⟨blk_cell HX.out 0, blk_cell HX.out 1⟩))
      exact bodyPost_ret (results_tmp2 rfl _ _ _) rfl ⟨_, rfl, Kd.V_nil _ _ _ _ _, HB.out⟩
    | true =>
      cases e2 with
      | false =>
        obtain rfl : (([] : List Int), (11 : Int)) = R0 := HR0.out
        go_enter Tryd.func20, Tryd.ntmps20
        go_wp2_with (first | (go_at_call 18; (with_reducible refine (calls_Check PA pc P QA qc Q _ HP.out hpc HQ.out hqc).mono ?_); rintro e w1 ⟨he, hb⟩; rw [hck] at he; subst he; have HP := Lib.hid (Kd.C_below HP.out hb); have HQ := Lib.hid (Kd.C_below HQ.out hb); have HG := Lib.hid (HG.out.below hb); have HX := Lib.hid (below_far HX.out hb); have HB := Lib.hid (HB.out.trans (hb.mono (below_size HB.out))); clear hb; obtain ⟨c0, c1⟩ : w1.cell? ⟨w.heap.size, 0, none⟩ = some (.slice PA P.length pc) ∧ w1.cell? ⟨w.heap.size, 1, none⟩ = some (.slice QA Q.length qc) := ⟨blk_cell HX.out 0, blk_cell HX.out 1⟩) | (go_at_call 61; (with_reducible refine (HCL.out _ HP.out HQ.out).mono ?_); rintro e w3 ⟨rfl, hb⟩; have HP := Lib.hid (Kd.C_below HP.out hb); have HQ := Lib.hid (Kd.C_below HQ.out hb); have HG := Lib.hid (HG.out.below hb); have HX := Lib.hid (below_far HX.out hb); have HB := Lib.hid (HB.out.trans (hb.mono (below_size HB.out))); clear hb; obtain ⟨c0, c1⟩ : w3.cell? ⟨w.heap.size, 0, none⟩ = some (.slice PA P.length pc) ∧ w3.cell? ⟨w.heap.size, 1, none⟩ = some (.slice QA Q.length qc) := ⟨blk_cell HX.out 0, blk_cell HX.out 1⟩) | (go_at_call 62; (with_reducible refine (HCA.out _ HP.out HQ.out).mono ?_); rintro e w5 ⟨rfl, hb⟩; have HP := Lib.hid (Kd.C_below HP.out hb); have HQ := Lib.hid (Kd.C_below HQ.out hb); have HG := Lib.hid (HG.out.below hb); have HX := Lib.hid (below_far HX.out hb); have HB := Lib.hid (HB.out.trans (hb.mono (below_size HB.out))); clear hb; obtain ⟨c0, c1⟩ : w5.cell? ⟨w.heap.size, 0, none⟩ = some (.slice PA P.length pc) ∧ w5.cell? ⟨w.heap.size, 1, none⟩ = some (.slice QA Q.length qc) := ⟨blk_cell HX.out 0, blk_cell HX.out 1⟩))
        exact bodyPost_ret (results_tmp2 rfl _ _ _) rfl ⟨_, rfl, Kd.V_nil _ _ _ _ _, HB.out⟩
      | true =>
        obtain ⟨i', rfl, hi⟩ := in_nat h1
        obtain ⟨p', rfl, hp⟩ := in_nat h2
        have hr1 : (ints (spotsL (P.getD i' z48) (Q.getD p' z50)), (0 : Int)) = R0 := HR0.out
        clear HR0 h1 h2
        have HR1 := Lib.hid hr1; clear hr1
        have HCS := Lib.hid (show ∀ (m : Nat) (W : World), Calls Tryd.prog 74 #[.agg #[.slice PA P.length pc, .slice QA Q.length qc, .map (some m)], .int .i64 i', .int .i64 p'] W fun e w' => e = .returned (.func (.func 102) #[] #[.pointer (some ⟨W.heap.size, 0, none⟩), .pointer (some ⟨W.heap.size + 1, 0, none⟩), .pointer (some ⟨W.heap.size + 2, 0, none⟩)]) ∧ SpotBox PA P.length pc QA Q.length qc m i' p' W.heap.size w' ∧ Below W.heap.size W w' ∧ w'.heap.size = W.heap.size + 3 from fun m W => calls_spots PA P.length pc QA Q.length qc m i' p' W)
        refine (callsIn_wide (n := 3)).1 ?_
        refine callsIn_of_wp_marks Tryd.func20 rfl trivial ?_
        simp only [Tryd.ntmps20, List.size_toArray, List.length_cons, List.length_nil, Nat.reduceAdd, Nat.reduceSub, Array.replicate_succ, Array.replicate_zero, List.push_toArray, List.append_toArray, List.nil_append, List.cons_append]
        gi_wp2_with (first | (refine ⟨trivial, ?_⟩; gi_at_call 18; (with_reducible refine (callsIn_wide.2 (calls_Check PA pc P QA qc Q _ HP.out hpc HQ.out hqc)).mono ?_); rintro e w1 ⟨he, hb⟩; rw [hck] at he; subst he; have HP := Lib.hid (Kd.C_below HP.out hb); have HQ := Lib.hid (Kd.C_below HQ.out hb); have HG := Lib.hid (HG.out.below hb); have HX := Lib.hid (below_far HX.out hb); have HB := Lib.hid (HB.out.trans (hb.mono (below_size HB.out))); clear hb; obtain ⟨c0, c1⟩ : w1.cell? ⟨w.heap.size, 0, none⟩ = some (.slice PA P.length pc) ∧ w1.cell? ⟨w.heap.size, 1, none⟩ = some (.slice QA Q.length qc) := ⟨blk_cell HX.out 0, blk_cell HX.out 1⟩) | (refine ⟨trivial, ?_⟩; gi_at_call 61; (with_reducible refine (callsIn_wide.2 (HCL.out _ HP.out HQ.out)).mono ?_); rintro e w3 ⟨rfl, hb⟩; have HP := Lib.hid (Kd.C_below HP.out hb); have HQ := Lib.hid (Kd.C_below HQ.out hb); have HG := Lib.hid (HG.out.below hb); have HX := Lib.hid (below_far HX.out hb); have HB := Lib.hid (HB.out.trans (hb.mono (below_size HB.out))); clear hb; obtain ⟨c0, c1⟩ : w3.cell? ⟨w.heap.size, 0, none⟩ = some (.slice PA P.length pc) ∧ w3.cell? ⟨w.heap.size, 1, none⟩ = some (.slice QA Q.length qc) := ⟨blk_cell HX.out 0, blk_cell HX.out 1⟩) | (refine ⟨trivial, ?_⟩; gi_at_call 62; (with_reducible refine (callsIn_wide.2 (HCA.out _ HP.out HQ.out)).mono ?_); rintro e w5 ⟨rfl, hb⟩; have HP := Lib.hid (Kd.C_below HP.out hb); have HQ := Lib.hid (Kd.C_below HQ.out hb); have HG := Lib.hid (HG.out.below hb); have HX := Lib.hid (below_far HX.out hb); have HB := Lib.hid (HB.out.trans (hb.mono (below_size HB.out))); clear hb; obtain ⟨c0, c1⟩ : w5.cell? ⟨w.heap.size, 0, none⟩ = some (.slice PA P.length pc) ∧ w5.cell? ⟨w.heap.size, 1, none⟩ = some (.slice QA Q.length qc) := ⟨blk_cell HX.out 0, blk_cell HX.out 1⟩; have hxl := blk_lt HX.out) | (refine ⟨trivial, ?_⟩; gi_at_call 60; (with_reducible refine (callsIn_wide.2 (calls_opened PA pc QA qc P Q _ (HG.out.below (new1 _ (.cells #[.slice none 0 0] 31)).2.1) (Kd.C_below HP.out (new1 _ (.cells #[.slice none 0 0] 31)).2.1) (Kd.C_below HQ.out (new1 _ (.cells #[.slice none 0 0] 31)).2.1))).mono ?_); rintro e w6 ⟨m, rfl, hbk, hm, hb⟩; obtain ⟨o0, o1, o2⟩ := new1 w5 (.cells #[.slice none 0 0] 31); have hsw := below_size HB.out; have HO := Lib.hid (below_far o0 hb); have HB := Lib.hid (HB.out.trans ((o1.trans (hb.mono (by rw [o2]; omega))).mono (below_size HB.out))); have HM := Lib.hid hm; have HO2 := Lib.hid o2; have HSW := Lib.hid hsw; have H65 := Lib.hid (blk_lt HO.out); have HBK := Lib.hid hbk; clear hb hbk o0 o1 o2 hm) | (refine ⟨trivial, ?_⟩; gi_at_call 74; (with_reducible refine (callsIn_wide.2 (HCS.out m _)).mono ?_); rintro e w2 ⟨rfl, hT, hb, hs⟩; have HT := Lib.hid hT; have HO := Lib.hid (below_far HO.out hb); have HB := Lib.hid (HB.out.trans (hb.mono (below_size HB.out))); have HBK := Lib.hid (HBK.out.below hb); have HS := Lib.hid hs; clear hb hT hs))
        have hbk2 := HBK.out
        have hmlt : m < w2.heap.size := hbk2.lt
        have hinv0 : SpotInv PA pc QA qc m P Q i' p' w6.heap.size w2 := ⟨hbk2, HT.out⟩
        have hmw : w.heap.size ≤ m := Nat.le_trans HSW.out (Nat.le_trans (by have := HO2.out; omega) HM.out)
        have hob : w.heap.size ≤ w5.heap.size := HSW.out
        have hm5 : w5.heap.size + 1 ≤ m := by have := HM.out; rwa [HO2.out] at this
        have h65 : w5.heap.size < w6.heap.size := H65.out
        have h26 := HS.out
        have hseq := spots_seq 2 PA pc QA qc m P Q hok i' p' w6.heap.size hi hp
        obtain ⟨i0, hinf, hz0, hz1, hz2⟩ := info_parts infoInt
        refine rangeFunc_memo_var (n := 3) (by omega) (gf := 102) (s := 10) (enc := fun a : Nat => .int .i64 (a : Nat)) (lb := #[.pointer (some ⟨w6.heap.size, 0, none⟩), .pointer (some ⟨w6.heap.size + 1, 0, none⟩), .pointer (some ⟨w6.heap.size + 2, 0, none⟩)]) rfl (enters_of Tryd.func102 (by kernel_rfl) rfl)
          hseq hmlt hinv0 (fun W' o h => h.below (new1 W' o).2.1) (fun W' l o o' hl hlo ho h => h.put hlo ho (by omega) o')
          (fun pre W' => (∃ v, Boxed W' w5.heap.size 31 v ∧ W'.ownsRow w2.heap.size 3 1 v pre.length ((ints pre).map (Value.int .i64)) ∧ True) ∧ Below w.heap.size w W')
          (fun _ _ _ => False)
          (OwnFrom.and (Own.from (holdsRow_own w2.heap.size w5.heap.size 31 3 1 (fun pre : List Nat => pre.length) (fun pre => (ints pre).map (Value.int .i64)) (fun _ _ => True)) _) (ownFrom_below (Nat.le_refl _) (below_size HB.out)))
          (fun _ _ _ _ _ hs _ _ => hs)
          (fun pre A B hs hg hv => by
            obtain ⟨⟨v, h1, h2, _⟩, h3⟩ := hs
            exact ⟨⟨v, h1.kept hg (fun e => by injection e; omega), h2.kept hg (.inr (own_far h2 hmlt).symm), trivial⟩, h3.grown hg (below_size h3) (fun k e => by cases e; exact hmw)⟩)
          ⟨⟨_, HO.out, World.ownsRow_nil _ _ _ _, trivial⟩, HB.out⟩ ?assign ?body ?done ?stop
        case assign =>
          intro l' b W' K hK
          simp only [List.setIfInBounds_toArray, List.set_cons_succ, List.set_cons_zero] at hK ⊢
          gi_wp2
          exact hK
        case body =>
          rintro l' pre x W' hl1 hl2 ⟨⟨v, hv, hrow, _⟩, hB⟩ hinv hpre
          have hx16 : pre.length < 16 := by
            have h1 := hpre.length_le
            have h2 := List.length_filter_le (spotB (P.getD i' z48) (Q.getD p' z50)) (List.range (P.getD i' z48).f0.toNat)
            rw [List.length_range] at h2
            have h3 := (hok.sized hi hp).w16
            rw [List.length_append, List.length_singleton] at h1
            unfold spotsL at h1
            omega
          have hc := hv.cell
          have hsz := Nat.le_of_lt (Nat.lt_of_le_of_lt hl1 hl2)
          simp only [List.setIfInBounds_toArray, List.set_cons_succ, List.set_cons_zero]
          gi_wp2_with (gi_at_builtin; refine wpListIn_append_own _ rfl _ _ 31 rfl w2.heap.size 3 i0 (.int .i64 0) 1 8 Tryd.underlying31 hinf hz0 hz1 hz2 rfl (by decide) _ _ _ rfl (hrow.alloc _) ⟨W'.heap.size, 0, none⟩ 1 1 [.int .i64 x] rfl rfl (cell_one_new _ _ _) (by simp [Value.oneCell']) (by simp [maxLen]; omega) (by omega) (by simp; omega) ?_; intro v' w3 hown' hgrow _; obtain ⟨g', cap', rfl⟩ := ownsRow_succ hown'; obtain ⟨hv1, hv2, hr2, hk2, hb2, hj2⟩ := boxed_app (b := w.heap.size) hv (by decide) hrow hsz (below_size HB.out) hob hown' hgrow; have hc1 := hv1.cell; have hf1 := hv1.frozen)
          have hbb := hB.trans hb2
          refine ⟨hk2.from _, ⟨?_, ⟨(hj2 _ (by omega) (by omega)).trans hinv.2.book, (hj2 _ (by omega) (by omega)).trans hinv.2.plank, (hj2 _ (by omega) (by omega)).trans hinv.2.part⟩⟩, ⟨_, hv2, by simpa [ints] using hr2, trivial⟩, hbb⟩
          obtain ⟨f, hf, hm⟩ := hinv.1.map
          exact ⟨HG0.out.below hbb, Kd.C_below HP0.out hbb, Kd.C_below HQ0.out hbb, f, hf.same (hj2 _ hmlt (by omega)), hm⟩
        case done =>
          rintro D W' hD ⟨⟨v, hv, hrow, _⟩, hB⟩ hinv hK
          obtain ⟨A', c', rfl⟩ := own_slice hrow
          have hc := hv.cell
          have hle := own_le hrow
          obtain ⟨ys, hys⟩ : ∃ ys, spotsL (P.getD i' z48) (Q.getD p' z50) = ys := ⟨_, rfl⟩
          have hr := HR1.out
          rw [hys] at hrow hc hle hr
          have HR1 := Lib.hid hr
          have HROW := Lib.hid hrow; have HBB := Lib.hid hB; have HK := Lib.hid hK
          clear hr hrow hB hK hv hys hinv hseq hinv0 hbk2
          gi_wp2
          refine ⟨by simp, .inl ⟨_, _, rfl, run_takeDeferred HK.out, ?_⟩⟩
          have hil : (ints ys).length = ys.length := by simp [ints]
          have hvv := cut_V (A := A') (n := ys.length) (c := c') (xs := ints ys) (by rw [hil]; exact own_weaker (ownsRow_putObj HROW.out (.deferred none) HK.out rfl) (below_size HB.out))
          rw [hil] at hvv
          refine ⟨_, results_tmp2 rfl _ _ _, _, by rw [← HR1.out]; rfl, by rw [← HR1.out]; exact hvv, ?_⟩
          exact HBB.out.grown (grownBy_putObj' W' D (.deferred none)) (below_size HBB.out) (fun k e => by cases e; exact Nat.le_trans (below_size HB.out) hD)
        case stop =>
          rintro D c pre W _ _ h _
          exact h.elim
end Go.Proofs.YtekjlpldooihhaaDoorP
namespace Go.Proofs.YtekjlpldooihhaaDoorP
open Go.RowKit Go.Proofs.YtekjlpldooihhaaDoorW.PrintWords Go.Proofs.YtekjlpldooihhaaDoorW.PrintLast Go.Proofs.YtekjlpldooihhaaDoorW.PrintMore Go.Proofs.YtekjlpldooihhaaDoorH Go.Proofs.YtekjlpldooihhaaDoorEv Go.Proofs.YtekjlpldooihhaaDoor.PA
set_option linter.unusedVariables false
set_option linter.unusedSimpArgs false
theorem infoWood : (Tryd.prog.info? 48).map (fun i => (i.zero, i.size, i.bytes)) = some (some (.agg #[.int .i64 0, .slice none 0 0]), 2, 32) := by kernel_rfl
theorem infoSpan : (Tryd.prog.info? 60).map (fun i => (i.zero, i.size, i.bytes)) = some (some (.agg #[.int .i64 0, .int .i64 0]), 2, 16) := by kernel_rfl
theorem add_two (ad : Addr) (j : Nat) : ad.add (j * 2 + 1) = ⟨(ad.add (j * 2)).block, (ad.add (j * 2)).off + 1, none⟩ := by
  unfold Addr.add
  by_cases h : j = 0
  · subst h; simp
  · have h2 : ¬ j * 2 = 0 := by omega
    simp [h2]; omega
def woodAt (W : World) (cs : Nat → Option Value) (y : S48) (j : Nat) : Prop := ∃ A c, cs (j * 2) = some (.int .i64 y.f0) ∧ cs (j * 2 + 1) = some (.slice A y.f1.length c) ∧ y.f1.length ≤ c ∧ Kd.C k60 W A y.f1.length y.f1
def cellsOf (W : World) (ad : Addr) (n : Nat) : List Value := (List.range (n * 2)).map fun i => (W.cell? (ad.add i)).getD undef
theorem cellsOf_get {W : World} {ad : Addr} {n i : Nat} (h : i < n * 2) : (cellsOf W ad n)[i]? = some ((W.cell? (ad.add i)).getD undef) := by
  unfold cellsOf
  rw [List.getElem?_map, List.getElem?_range h]; rfl
theorem cellsOf_len (W : World) (ad : Addr) (n : Nat) : (cellsOf W ad n).length = n * 2 := by simp [cellsOf]
theorem woods_news {W : World} {ad : Addr} {P : List S48} (h : Kd.C k48 W (some ad) P.length P) :
    (∀ j u, (cellsOf W ad P.length)[j]? = some u → W.cell? (ad.add j) = some u) ∧ (∀ u ∈ cellsOf W ad P.length, u.oneCell' = true) ∧ ∀ j, j < P.length → woodAt W (fun i => (cellsOf W ad P.length)[i]?) (P.getD j z48) j := by
  have key : ∀ j, j < P.length → ∃ A c, W.cell? (ad.add (j * 2)) = some (.int .i64 (P.getD j z48).f0) ∧ W.cell? (ad.add (j * 2 + 1)) = some (.slice A (P.getD j z48).f1.length c) ∧ (P.getD j z48).f1.length ≤ c ∧ Kd.C k60 W A (P.getD j z48).f1.length (P.getD j z48).f1 := fun j hj => by
    obtain ⟨a, A, c, e, h1, h2, h3, h4⟩ := at_wood h j hj
    obtain rfl := Option.some.inj e
    exact ⟨A, c, h1, by rw [add_two]; exact h2, h3, h4⟩
  have all : ∀ i, i < P.length * 2 → ∃ u, W.cell? (ad.add i) = some u ∧ u.oneCell' = true := fun i hi => by
    obtain ⟨A, c, h1, h2, _, _⟩ := key (i / 2) (by omega)
    by_cases hm : i % 2 = 0
    · rw [show i / 2 * 2 = i by omega] at h1; exact ⟨_, h1, rfl⟩
    · rw [show i / 2 * 2 + 1 = i by omega] at h2; exact ⟨_, h2, rfl⟩
  refine ⟨fun j u hu => ?_, fun u hu => ?_, fun j hj => ?_⟩
  · have hj : j < P.length * 2 := by have := (List.getElem?_eq_some_iff.1 hu).1; rwa [cellsOf_len] at this
    obtain ⟨v, hv, _⟩ := all j hj
    rw [cellsOf_get hj, hv] at hu
    rw [hv]; exact hu
  · obtain ⟨j, hj, rfl⟩ := List.getElem_of_mem hu
    have hj2 : j < P.length * 2 := by rwa [cellsOf_len] at hj
    obtain ⟨v, hv, h1⟩ := all j hj2
    have := cellsOf_get (W := W) (ad := ad) hj2
    rw [List.getElem?_eq_getElem hj, hv] at this
    rw [Option.some.inj this]; exact h1
  · obtain ⟨A, c, h1, h2, h3, h4⟩ := key j hj
    exact ⟨A, c, by show (cellsOf W ad P.length)[j * 2]? = _; rw [cellsOf_get (by omega), h1]; rfl, by show (cellsOf W ad P.length)[j * 2 + 1]? = _; rw [cellsOf_get (by omega), h2]; rfl, h3, h4⟩
theorem woods_C {W : World} {g : Nat} {cur : Array Value} {fr : Nat × Nat} {P : List S48} (hg : W.heap[g]? = some (.cells cur 48 fr)) (hm : P.length ≤ maxLen) (h : ∀ j, j < P.length → woodAt W (fun i => cur[i]?) (P.getD j z48) j) : Kd.C k48 W (some ⟨g, 0, none⟩) P.length P := by
  refine ⟨rfl, hm, fun _ => ⟨_, rfl, fun j x hx => ?_⟩⟩
  have hj : j < P.length := (List.getElem?_eq_some_iff.1 hx).1
  obtain ⟨A, c, h1, h2, h3, h4⟩ := h j hj
  have hxe : P.getD j z48 = x := by rw [List.getD_eq_getElem?_getD, hx]; rfl
  rw [hxe] at h1 h2 h3 h4
  refine ⟨[.int .i64 x.f0, .slice A x.f1.length c], rfl, k48_mk W x h3 h4, fun i u hi => ?_⟩
  rw [show k48.sz = 2 from rfl, show (⟨g, 0, none⟩ : Addr).add (j * 2 + i) = ⟨g, j * 2 + i, none⟩ from by unfold Addr.add; split <;> simp_all]
  have hgc : W.cell? ⟨g, j * 2 + i, none⟩ = cur[j * 2 + i]? := by unfold World.cell?; rw [hg]; rfl
  rw [hgc]
  match i, hi with
  | 0, hi => simp at hi; rw [← hi]; exact h1
  | 1, hi => simp at hi; rw [← hi]; exact h2
  | i + 2, hi => simp at hi
theorem woodAt_keep {W W1 : World} {cs cs1 : Nat → Option Value} {y : S48} {j : Nat} (h : woodAt W cs y j) (h0 : cs1 (j * 2) = cs (j * 2)) (h1 : cs1 (j * 2 + 1) = cs (j * 2 + 1)) (hb : Below W.heap.size W W1) : woodAt W1 cs1 y j := by
  obtain ⟨A, c, a1, a2, a3, a4⟩ := h
  exact ⟨A, c, h0.trans a1, h1.trans a2, a3, Kd.C_below a4 hb⟩
def spanAt (cs : Nat → Option Value) (y : S60) (j : Nat) : Prop := cs (j * 2) = some (.int .i64 y.f0) ∧ cs (j * 2 + 1) = some (.int .i64 y.f1)
theorem spans_news {W : World} {ad : Addr} {P : List S60} (h : Kd.C k60 W (some ad) P.length P) :
    (∀ j u, (cellsOf W ad P.length)[j]? = some u → W.cell? (ad.add j) = some u) ∧ (∀ u ∈ cellsOf W ad P.length, u.oneCell' = true) ∧ ∀ j, j < P.length → spanAt (fun i => (cellsOf W ad P.length)[i]?) (P.getD j z60) j := by
  have key : ∀ j, j < P.length → W.cell? (ad.add (j * 2)) = some (.int .i64 (P.getD j z60).f0) ∧ W.cell? (ad.add (j * 2 + 1)) = some (.int .i64 (P.getD j z60).f1) := fun j hj => by
    obtain ⟨a, e, h1, h2⟩ := at_span h j hj
    obtain rfl := Option.some.inj e
    exact ⟨h1, by rw [add_two]; exact h2⟩
  have all : ∀ i, i < P.length * 2 → ∃ u, W.cell? (ad.add i) = some u ∧ u.oneCell' = true := fun i hi => by
    obtain ⟨h1, h2⟩ := key (i / 2) (by omega)
    by_cases hm : i % 2 = 0
    · rw [show i / 2 * 2 = i by omega] at h1; exact ⟨_, h1, rfl⟩
    · rw [show i / 2 * 2 + 1 = i by omega] at h2; exact ⟨_, h2, rfl⟩
  refine ⟨fun j u hu => ?_, fun u hu => ?_, fun j hj => ?_⟩
  · have hj : j < P.length * 2 := by have := (List.getElem?_eq_some_iff.1 hu).1; rwa [cellsOf_len] at this
    obtain ⟨v, hv, _⟩ := all j hj
    rw [cellsOf_get hj, hv] at hu
    rw [hv]; exact hu
  · obtain ⟨j, hj, rfl⟩ := List.getElem_of_mem hu
    have hj2 : j < P.length * 2 := by rwa [cellsOf_len] at hj
    obtain ⟨v, hv, h1⟩ := all j hj2
    have := cellsOf_get (W := W) (ad := ad) hj2
    rw [List.getElem?_eq_getElem hj, hv] at this
    rw [Option.some.inj this]; exact h1
  · obtain ⟨h1, h2⟩ := key j hj
    exact ⟨by show (cellsOf W ad P.length)[j * 2]? = _; rw [cellsOf_get (by omega), h1]; rfl, by show (cellsOf W ad P.length)[j * 2 + 1]? = _; rw [cellsOf_get (by omega), h2]; rfl⟩
theorem spans_C {W : World} {g : Nat} {cur : Array Value} {fr : Nat × Nat} {P : List S60} (hg : W.heap[g]? = some (.cells cur 60 fr)) (hm : P.length ≤ maxLen) (h : ∀ j, j < P.length → spanAt (fun i => cur[i]?) (P.getD j z60) j) : Kd.C k60 W (some ⟨g, 0, none⟩) P.length P := by
  refine ⟨rfl, hm, fun _ => ⟨_, rfl, fun j x hx => ?_⟩⟩
  have hj : j < P.length := (List.getElem?_eq_some_iff.1 hx).1
  obtain ⟨h1, h2⟩ := h j hj
  have hxe : P.getD j z60 = x := by rw [List.getD_eq_getElem?_getD, hx]; rfl
  rw [hxe] at h1 h2
  refine ⟨[.int .i64 x.f0, .int .i64 x.f1], rfl, k60_mk W x, fun i u hi => ?_⟩
  rw [show k60.sz = 2 from rfl, show (⟨g, 0, none⟩ : Addr).add (j * 2 + i) = ⟨g, j * 2 + i, none⟩ from by unfold Addr.add; split <;> simp_all]
  have hgc : W.cell? ⟨g, j * 2 + i, none⟩ = cur[j * 2 + i]? := by unfold World.cell?; rw [hg]; rfl
  rw [hgc]
  match i, hi with
  | 0, hi => simp at hi; rw [← hi]; exact h1
  | 1, hi => simp at hi; rw [← hi]; exact h2
  | i + 2, hi => simp at hi
set_option maxRecDepth 100000 in
theorem calls_ClonePl (ad : Addr) (n c : Nat) (hn : 1 ≤ n) (hn2 : n ≤ 64) (news : List Value) (W : World) (hl : news.length = n * 2) (hc : ∀ j u, news[j]? = some u → W.cell? (ad.add j) = some u) (h1 : ∀ u ∈ news, u.oneCell' = true) :
    Calls Tryd.prog 91 #[.slice (some ad) n c] W fun e w' => ∃ g cap cur, e = .returned (.slice (some ⟨g, 0, none⟩) n cap) ∧ w'.heap[g]? = some (.cells cur 48 (0, 0)) ∧ W.heap.size ≤ g ∧ n ≤ cap ∧ cur.toList.take (n * 2) = news ∧ Below W.heap.size W w' := by
  obtain ⟨i0, hinf, hz0, hz1, hz2⟩ := info_parts infoWood
  have HC := Lib.hid hc; have H1 := Lib.hid h1
  clear hc h1
  have q : ∀ (w : World) (a : Option Addr) (n c n' c' : Nat), (binOp .eql 22 (.slice a n c) (.slice none n' c')).run Tryd.prog w = .ok (.bool a.isNone) w := fun w a n c n' c' => Lib.run_eql_slice_nil w _ _ a n c n' c' Tryd.underlying22
  go_enter Tryd.func91, Tryd.ntmps91
  go_wp2_with ((with_reducible refine gate_builtin (b := .append) (xs := #[.tmp 5, .tmp 6]) rfl ?_); at_builtin; refine wpList_append_own _ rfl _ _ 22 rfl W.heap.size 48 i0 (.agg #[.int .i64 0, .slice none 0 0]) 2 32 Tryd.underlying22 hinf hz0 hz1 hz2 rfl (by decide) _ 0 [] rfl ⟨by simp, .inr ⟨W.heap.size, 0, #[], rfl, Nat.le_refl _, (new1 W _).1, Nat.le_refl _, (by decide), (by simp), (by simp)⟩⟩ ad n c news rfl hl (fun j u h => pw_cell_below (new1 W _).2.1 (HC.out j u h)) H1.out (by simp [maxLen]; omega) (by omega) (by simp) ?_; intro v' w3 hown hgrow _)
  obtain ⟨_, hown⟩ := hown
  rcases hown with ⟨_, h0⟩ | ⟨g, cap, cur, rfl, hg, hblk, hcap, _, _, hnews⟩
  · omega
  go_wp2
  go_ret
  refine ⟨g, cap, cur, by simp, hblk, hg, by omega, by simpa using hnews, grown_Below (new1 W _).2.1 (Nat.le_refl _) hgrow⟩
set_option maxRecDepth 100000 in
theorem calls_CloneKn (ad : Addr) (n c : Nat) (hn : 1 ≤ n) (hn2 : n ≤ 64) (news : List Value) (W : World) (hl : news.length = n * 2) (hc : ∀ j u, news[j]? = some u → W.cell? (ad.add j) = some u) (h1 : ∀ u ∈ news, u.oneCell' = true) :
    Calls Tryd.prog 92 #[.slice (some ad) n c] W fun e w' => ∃ g cap cur, e = .returned (.slice (some ⟨g, 0, none⟩) n cap) ∧ w'.heap[g]? = some (.cells cur 60 (0, 0)) ∧ W.heap.size ≤ g ∧ n ≤ cap ∧ cur.toList.take (n * 2) = news ∧ Below W.heap.size W w' := by
  obtain ⟨i0, hinf, hz0, hz1, hz2⟩ := info_parts infoSpan
  have HC := Lib.hid hc; have H1 := Lib.hid h1
  clear hc h1
  have q : ∀ (w : World) (a : Option Addr) (n c n' c' : Nat), (binOp .eql 46 (.slice a n c) (.slice none n' c')).run Tryd.prog w = .ok (.bool a.isNone) w := fun w a n c n' c' => Lib.run_eql_slice_nil w _ _ a n c n' c' Tryd.underlying46
  go_enter Tryd.func92, Tryd.ntmps92
  go_wp2_with ((with_reducible refine gate_builtin (b := .append) (xs := #[.tmp 5, .tmp 6]) rfl ?_); at_builtin; refine wpList_append_own _ rfl _ _ 46 rfl W.heap.size 60 i0 (.agg #[.int .i64 0, .int .i64 0]) 2 16 Tryd.underlying46 hinf hz0 hz1 hz2 rfl (by decide) _ 0 [] rfl ⟨by simp, .inr ⟨W.heap.size, 0, #[], rfl, Nat.le_refl _, (new1 W _).1, Nat.le_refl _, (by decide), (by simp), (by simp)⟩⟩ ad n c news rfl hl (fun j u h => pw_cell_below (new1 W _).2.1 (HC.out j u h)) H1.out (by simp [maxLen]; omega) (by omega) (by simp) ?_; intro v' w3 hown hgrow _)
  obtain ⟨_, hown⟩ := hown
  rcases hown with ⟨_, h0⟩ | ⟨g, cap, cur, rfl, hg, hblk, hcap, _, _, hnews⟩
  · omega
  go_wp2
  go_ret
  refine ⟨g, cap, cur, by simp, hblk, hg, by omega, by simpa using hnews, grown_Below (new1 W _).2.1 (Nat.le_refl _) hgrow⟩
end Go.Proofs.YtekjlpldooihhaaDoorP
