/- The walks of package dapple: the dapple that should be looked at. -/
import Derived.Test.YtdllacjkacmghaaDoorGg
namespace Go.Proofs.YtdllacjkacmghaaDoorD
open Go.RowKit Go.Proofs.YtdllacjkacmghaaDoorW.PrintWords Go.Proofs.YtdllacjkacmghaaDoorW.PrintLast Go.Proofs.YtdllacjkacmghaaDoorW.PrintMore Go.Proofs.YtdllacjkacmghaaDoorH
set_option linter.unusedVariables false
set_option linter.unusedSimpArgs false

/-- is the size known -/
def knownS (s : Int) : Bool := Go.bits .and .i64 s (s - 1) == 0
def bitN (s q : Nat) : Bool := s / 2 ^ q % 2 == 1
/-- how many pairs can be the same, for each size that a dapple can have, of the first k -/
def worstTo (n : Nat) (l : List (List Int)) (h p s k : Nat) : List Int := ints (((List.range k).filter (bitN s)).map fun q => pairsB n (setAt l h p (2 ^ q)))
def placeAt (l : List (List Int)) (h p : Nat) : Int := (l.getD h []).getD p 0
def worstB (n : Nat) (l : List (List Int)) (h p : Nat) : Int := (worstTo n l h p (placeAt l h p).toNat 4).foldl mx 0
def lookStep (n : Nat) (l : List (List Int)) (h p : Nat) (z : Int × Int × Int) : Int × Int × Int :=
  if knownS (placeAt l h p) then z else if decide (z.2.2 < 0) || decide (worstB n l h p < z.2.2) then ((h : Int), (p : Int), worstB n l h p) else z
def lookIn (n : Nat) (l : List (List Int)) (h : Nat) (z : Int × Int × Int) : Nat → Int × Int × Int
  | 0 => z
  | p + 1 => lookStep n l h p (lookIn n l h z p)
def lookTo (n : Nat) (l : List (List Int)) : Nat → Int × Int × Int
  | 0 => (0, 0, -1)
  | h + 1 => lookIn n l h (lookTo n l h) (l.getD h []).length
def lookD (R : Int) (l : List (List Int)) : Int × Int × Int :=
  if validB R l then (if (lookTo R.toNat l l.length).2.2 < 0 then (0, 0, 4) else ((lookTo R.toNat l l.length).1, (lookTo R.toNat l l.length).2.1, 0)) else (0, 0, 70)

theorem bit_at0 (s k : Nat) (hs : s < 256) : (Go.bits .and .i64 ((s : Int) / 2 ^ k) 1 == 0) = !bitN s k := by
  have e : (s : Int) / 2 ^ k = ((s / 2 ^ k : Nat) : Int) := by simp
  have hle : s / 2 ^ k ≤ s := Nat.div_le_self _ _
  unfold bitN
  rw [e]
  generalize s / 2 ^ k = q at hle ⊢
  rw [and1 _ (by omega) (by omega), Bool.eq_iff_iff]
  simp only [beq_iff_eq, Bool.not_eq_true', beq_eq_false_iff_ne, ne_eq]
  omega
theorem worst_yes {n : Nat} {l : List (List Int)} {h p s k : Nat} (hb : bitN s k = true) : worstTo n l h p s (k + 1) = worstTo n l h p s k ++ [(pairsB n (setAt l h p (2 ^ k)) : Int)] := by
  unfold worstTo
  rw [filter_next_yes hb, List.map_append, ints_append]; rfl
theorem worst_no {n : Nat} {l : List (List Int)} {h p s k : Nat} (hb : bitN s k = false) : worstTo n l h p s (k + 1) = worstTo n l h p s k := by
  unfold worstTo
  rw [filter_next_no hb]
theorem worst_len (n : Nat) (l : List (List Int)) (h p s k : Nat) : (worstTo n l h p s k).length ≤ k := by
  unfold worstTo
  rw [ints_length, List.length_map]
  have := List.length_filter_le (bitN s) (List.range k)
  rwa [List.length_range] at this

set_option maxRecDepth 100000 in
set_option maxHeartbeats 2000000 in
theorem calls_Look (R : Int) (A : Option Addr) (c : Nat) (l : List (List Int)) (w : World) (hr : Kd.C (Kd.slice 3 (Kd.int .i64)) w A l.length l) (hc : l.length ≤ c) (hG : Glob w) :
    Calls Tryd.prog 47 #[.agg #[.int .i64 R, .slice A l.length c]] w fun e w' =>
      e = .returned (.tuple #[.int .i64 (lookD R l).1, .int .i64 (lookD R l).2.1, .int .i64 (lookD R l).2.2]) ∧ Below w.heap.size w w' := by
  have hv := valid_iff R l
  have HR := Lib.hid hr; clear hr
  have HG := Lib.hid hG; clear hG
  have HXa := Lib.hid (blk_new w (.cells #[.int .i64 R, .slice A l.length c] 24))
  have HBa := Lib.hid (below_alloc (Below.refl _ _) (.cells #[.int .i64 R, .slice A l.length c] 24) : Below w.heap.size w _)
  by_cases hval : validB R l = true
  · have hck : checkD R l = 0 := by simp [checkD, hval]
    have hV := hv.1 hval
    obtain ⟨n, rfl, hn8, hn1⟩ := hV.nat
    have HV := Lib.hid hV; clear hV hv
    have hn0 : ((n : Int)).toNat = n := by simp
    have h6 : l.length ≤ 6 := HV.out.h6
    have hdd : lookD n l = (if (lookTo n l l.length).2.2 < 0 then (0, 0, 4) else ((lookTo n l l.length).1, (lookTo n l l.length).2.1, (0 : Int))) := by simp [lookD, hval]
    have HDD := Lib.hid hdd; clear hdd
    go_enter Tryd.func47, Tryd.ntmps47
    go_wp2_with (go_at_call 20; refine (calls_Check n A c l _ (Kd.C_below HR.out HBa.out) hc).mono ?_; rintro e w1 ⟨he, hb⟩; rw [hck] at he; subst he; have HX := Lib.hid (blk_below HXa.out hb); have HB := Lib.hid (HBa.out.trans (hb.mono (by simp))); clear hb HXa HBa; have c1 : w1.cell? ⟨w.heap.size, 1, none⟩ = some (.slice A l.length c) := blk_cell HX.out 1)
    go_loopw [2, 3, 6, 23] (fun v2 v3 v6 v wr => ∃ h : Nat, h ≤ l.length ∧ v = .int .i64 h ∧ v2 = .int .i64 (lookTo n l h).1 ∧ v3 = .int .i64 (lookTo n l h).2.1 ∧ v6 = .int .i64 (lookTo n l h).2.2 ∧ Hid (wr.heap[w.heap.size]? = some (.cells #[.int .i64 n, .slice A l.length c] 24 (0, 0))) ∧ Hid (Below w.heap.size w wr)) (fun _ _ _ v _ => l.length - (intOf v).toNat)
    case atStart => exact ⟨0, Nat.zero_le _, rfl, rfl, rfl, rfl, HX, HB⟩
    case round =>
      clear HX HB c1
      obtain ⟨h, hh, rfl, rfl, rfl, rfl, HX, HB⟩ := hrel
      obtain ⟨z0, hz0⟩ : ∃ z0, lookTo n l h = z0 := ⟨_, rfl⟩
      by_cases hlt : h < l.length
      · obtain ⟨wo, rfl⟩ : ∃ wo : World, wo = wr := ⟨_, rfl⟩
        obtain ⟨ad, A0, c0, x, rfl, hx, hcell, hlx, hKx⟩ := at_row (Kd.C_below HR.out HB.out) h hlt
        have hxd : l.getD h [] = x := by rw [List.getD_eq_getElem?_getD, hx]; rfl
        have hxl : (x.length : Int) = n := HV.out.len x (List.mem_of_getElem? hx)
        have hxl8 : x.length ≤ 8 := by omega
        have hxs := HV.out.set x (List.mem_of_getElem? hx)
        have HXS := Lib.hid hxs
        have HK := Lib.hid hKx
        have hnext : lookTo n l (h + 1) = lookIn n l h z0 x.length := by rw [← hz0, ← hxd]; rfl
        have HN := Lib.hid hnext
        have HXD := Lib.hid hxd
        rw [hz0]
        clear hx hxl hxs hKx hnext hxd hz0
        go_wp2_with fail
        go_loopw [2, 3, 6, 30] (fun v2 v3 v6 v wi => ∃ p : Nat, p ≤ x.length ∧ v = .int .i64 p ∧ v2 = .int .i64 (lookIn n l h z0 p).1 ∧ v3 = .int .i64 (lookIn n l h z0 p).2.1 ∧ v6 = .int .i64 (lookIn n l h z0 p).2.2 ∧ Hid (Below wo.heap.size wo wi)) (fun _ _ _ v _ => x.length - (intOf v).toNat)
        case atStart => exact ⟨0, Nat.zero_le _, rfl, rfl, rfl, rfl, Lib.hid (Below.refl _ _)⟩
        case round =>
          clear hcell
          obtain ⟨p, hp, rfl, rfl, rfl, rfl, HI⟩ := hrel
          obtain ⟨z, hz⟩ : ∃ z, lookIn n l h z0 p = z := ⟨_, rfl⟩
          by_cases hltp : p < x.length
          · obtain ⟨wm, rfl⟩ : ∃ wm : World, wm = wr := ⟨_, rfl⟩
            obtain ⟨ad2, rfl, hcell⟩ := at_nat (Kd.C_below HK.out HI.out) p hltp
            have hpl : placeAt l h p = rd x p := by unfold placeAt; rw [HXD.out]; rfl
            have hmem : rd x p ∈ x := by have : rd x p = x[p] := by simp [rd, hltp]
                                         rw [this]; exact List.getElem_mem _
            obtain ⟨hs1, hs15⟩ := HXS.out _ hmem
            obtain ⟨s, hs⟩ : ∃ s : Nat, rd x p = s := ⟨(rd x p).toNat, by omega⟩
            rw [hs] at hcell hpl hs1 hs15
            have hnext : lookIn n l h z0 (p + 1) = (if knownS s then z else if decide (z.2.2 < 0) || decide (worstB n l h p < z.2.2) then ((h : Int), (p : Int), worstB n l h p) else z) := by rw [← hz, ← hpl]; rfl
            have HN2 := Lib.hid hnext
            have HW := Lib.hid (show worstB n l h p = (worstTo n l h p s 4).foldl mx 0 by unfold worstB; rw [hpl]; simp)
            rw [hz]
            clear hnext hmem hpl hz
            have HSS := Lib.hid hs; clear hs
            have hw1 : wrap64 ((s : Int) - 1) = (s : Int) - 1 := by unfold wrap64; omega
            by_cases hkn : knownS s = true
            · have hkn' : (Go.bits .and .i64 (s : Int) ((s : Int) - 1) == 0) = true := hkn
              go_wp2_with fail
              go_roundw
              case rel => exact ⟨p + 1, by omega, by go_num, by rw [HN2.out, if_pos hkn], by rw [HN2.out, if_pos hkn], by rw [HN2.out, if_pos hkn], HI⟩
              case measure => simp [intOf]; omega
            · have hkn : knownS s = false := by simpa using hkn
              have hkn' : (Go.bits .and .i64 (s : Int) ((s : Int) - 1) == 0) = false := hkn
              go_wp2_with fail
              have HKN := Lib.hid hkn
              have hs256 : s < 256 := by omega
              clear hcell hw1 hkn hkn'
              have hh8 : h * 8 + p < 9223372036854775807 := by omega
              go_loopw [11, 40] (fun v11 v wi => ∃ k : Nat, k ≤ 4 ∧ v = .int .i64 k ∧ Hid (Kd.R (Kd.int .i64) 3 wi wm.heap.size (fun _ => True) v11 (worstTo n l h p s k)) ∧ Hid (Below wm.heap.size wm wi)) (fun _ v _ => 4 - (intOf v).toNat)
              case atStart => exact ⟨0, by omega, rfl, Lib.hid (Kd.R_nil _ _ _ _ _), Lib.hid (Below.refl _ _)⟩
              case round =>
                obtain ⟨k, hk, rfl, HL, HJ⟩ := hrel
                have HXr := Lib.hid (blk_below (blk_below HX.out HI.out) (HJ.out.mono (Nat.le_refl _)))
                have HBr := Lib.hid ((HB.out.trans (HI.out.mono (below_size HB.out))).trans (HJ.out.mono (Nat.le_trans (below_size HB.out) (below_size HI.out))))
                by_cases hltk : k < 4
                · have hbit := bit_at0 s k hs256
                  cases hbb : bitN s k with
                  | false =>
                    rw [hbb] at hbit
                    have HBB := Lib.hid hbb; clear hbb
                    go_wp2_with fail
                    go_roundw
                    case rel => exact ⟨k + 1, by omega, by go_num, by rw [worst_no HBB.out]; exact HL, HJ⟩
                    case measure => simp [intOf]; omega
                  | true =>
                    rw [hbb] at hbit
                    have HBB := Lib.hid hbb; clear hbb
                    have c0 : wr.cell? ⟨w.heap.size, 0, none⟩ = some (.int .i64 n) := blk_cell HXr.out 0
                    have c1 : wr.cell? ⟨w.heap.size, 1, none⟩ = some (.slice (some ad) l.length c) := blk_cell HXr.out 1
                    go_wp2_with (go_at_call 66; refine (calls_opened2 n (some ad) c l HV.out _ (Kd.C_below HR.out HBr.out) hc (HG.out.below HBr.out)).mono ?_; rintro e w2 ⟨g, rc, m, cur, he, hgc, hrow, hmap, hrc, hm, hg, hb⟩; obtain ⟨ad3, had3⟩ : ∃ ad3 : Addr, ad3 = ⟨g, 0, none⟩ := ⟨_, rfl⟩; rw [← had3] at he hrow; have HAD3 := Lib.hid had3; clear had3; subst he)
                    have HGB := Lib.hid (HG.out.below (HBr.out.trans (hb.mono (below_size HBr.out))))
                    have HL2 := Lib.hid (Kd.R_below HL.out hb)
                    have HJ2 := Lib.hid (HJ.out.trans (hb.mono (below_size HJ.out)))
                    have hgm : wm.heap.size ≤ g := Nat.le_trans (below_size HJ.out) hg
                    have hmm : wm.heap.size ≤ m := Nat.le_trans (below_size HJ.out) hm
                    have hglt : g < w2.heap.size := blk_lt hgc
                    have hmlt : m < w2.heap.size := hmap.lt
                    generalize hWdef : w2.alloc (.cells #[.int .i64 n, .slice (some ad) l.length c, .slice (some ad3) l.length rc, .map (some m)] 72) = W
                    have hb2 : Below w2.heap.size w2 W := by rw [← hWdef]; exact below_alloc (Below.refl _ _) _
                    have hY : W.heap[w2.heap.size]? = some (.cells #[.int .i64 n, .slice (some ad) l.length c, .slice (some ad3) l.length rc, .map (some m)] 72 (0, 0)) := by rw [← hWdef]; exact blk_new w2 _
                    clear hWdef
                    have hgcW := blk_below hgc hb2
                    have hrowW := Kd.C_below hrow hb2
                    have hadd2 : (ad3.add (h * 8)).add p = ⟨g, h * 8 + p, none⟩ := by rw [HAD3.out]; unfold Addr.add; split <;> split <;> simp_all
                    have hadd : ∀ q, ad3.add q = ⟨g, q, none⟩ := fun q => by rw [HAD3.out]; unfold Addr.add; split <;> simp_all
                    have hold : W.cell? ((ad3.add (h * 8)).add p) = some (.int .i64 (el x p)) := by
                      obtain ⟨ad', e', h0', h1'⟩ := at_rowC hrowW h hlt
                      obtain rfl := Option.some.inj e'
                      rw [HXD.out] at h0' h1'
                      rw [hadd2]
                      by_cases hp0 : p = 0
                      · subst hp0; rw [hadd] at h0'; exact h0'
                      · have := h1' p (by omega) (by omega); rw [hadd] at this; exact this
                    have hfz : W.frozen? ((ad3.add (h * 8)).add p) = false := by
                      rw [hadd2]; exact blk_frozen hgcW _
                    have b2 : W.cell? ⟨w2.heap.size, 2, none⟩ = some (.slice (some ad3) l.length rc) := blk_cell hY 2
                    have HADD := Lib.hid hadd; have HADD2 := Lib.hid hadd2; clear hadd2; have HGC := Lib.hid hgcW; have HROW := Lib.hid hrowW; have HB2 := Lib.hid hb2; have HY := Lib.hid hY; have HMAP := Lib.hid (hmap.below hb2); have HL3 := Lib.hid (Kd.R_below HL2.out hb2)
                    have HJ3 := Lib.hid (HJ2.out.trans (hb2.mono (below_size HJ2.out)))
                    clear hadd hgcW hrowW hb2 hY hmap hb hrow hgc HL HL2 HJ2
                    have hh6 : (h : Int) < (l.length : Int) := by omega
                    have hp8 : (p : Int) < 8 := by omega
                    refine start_ (n := 9) (S := fun w' => w'.cell? ⟨w2.heap.size, 2, none⟩ = some (.slice (some ad3) l.length rc) ∧ w'.cell? ((ad3.add (h * 8)).add p) = some (.int .i64 (el x p)) ∧ w'.frozen? ((ad3.add (h * 8)).add p) = false) (ds := [8]) #[false, false, false, false, false, false, false, false, false] (by kernel_rfl) rfl rfl ⟨b2, hold, hfz⟩ (fun hHeld => ?_)
                    refine pure_ (i := 0) (N := some 50) (v := ?_) (a' := ?_) #[true, false, false, false, false, false, false, false, false] rfl rfl (by kernel_rfl) (fun _ _ _ h => h) (Or.inl ⟨by rfl, ?_⟩) ?_ ?_
                    rotate_left
                    · intro w'
                      go_simp
                      with_reducible rfl
                    rotate_left
                    · simp only [Act.put, List.setIfInBounds_toArray, List.set_cons_zero, List.set_cons_succ, i64_w, i32_w]
                      rfl
                    refine pure_ (i := 2) (N := some 52) (v := ?_) (a' := ?_) #[true, false, true, false, false, false, false, false, false] rfl rfl (by kernel_rfl) (fun _ _ _ h => h) (Or.inl ⟨by rfl, ?_⟩) ?_ ?_
                    rotate_left
                    · intro w'
                      go_simp
                      with_reducible rfl
                    rotate_left
                    · simp only [Act.put, List.setIfInBounds_toArray, List.set_cons_zero, List.set_cons_succ, i64_w, i32_w]
                      rfl
                    refine pure_ (i := 3) (N := some 53) (v := ?_) (a' := ?_) #[true, false, true, true, false, false, false, false, false] rfl rfl (by kernel_rfl) (fun _ _ _ h => h) (Or.inl ⟨by rfl, ?_⟩) ?_ ?_
                    rotate_left
                    · intro w'
                      go_simp
                      with_reducible rfl
                    rotate_left
                    · simp only [Act.put, List.setIfInBounds_toArray, List.set_cons_zero, List.set_cons_succ, i64_w, i32_w]
                      rfl
                    refine pure_ (i := 4) (N := some 54) (v := ?_) (a' := ?_) #[true, false, true, true, true, false, false, false, false] rfl rfl (by kernel_rfl) (fun _ _ _ h => h) (Or.inl ⟨by rfl, ?_⟩) ?_ ?_
                    rotate_left
                    · intro w'
                      go_simp
                      with_reducible rfl
                    rotate_left
                    · simp only [Act.put, List.setIfInBounds_toArray, List.set_cons_zero, List.set_cons_succ, i64_w, i32_w]
                      rfl
                    refine pure_ (i := 5) (N := some 55) (v := ?_) (a' := ?_) #[true, false, true, true, true, true, false, false, false] rfl rfl (by kernel_rfl) (fun _ _ _ h => h) (Or.inl ⟨by rfl, ?_⟩) ?_ ?_
                    rotate_left
                    · intro w'
                      go_simp
                      with_reducible rfl
                    rotate_left
                    · simp only [Act.put, List.setIfInBounds_toArray, List.set_cons_zero, List.set_cons_succ, i64_w, i32_w]
                      rfl
                    refine take_ (i := 1) (N := some 51) (v := ?_) (a' := ?_) #[true, true, true, true, true, true, false, false, false] rfl rfl (by kernel_rfl) (fun _ _ _ h => h) (Or.inl ⟨by rfl, ?_⟩) hHeld ?_ ?_
                    rotate_left
                    · rintro w' ⟨s0, s1, s2⟩
                      go_simp
                      with_reducible rfl
                    rotate_left
                    · simp only [Act.put, List.setIfInBounds_toArray, List.set_cons_zero, List.set_cons_succ, i64_w, i32_w]
                      rfl
                    refine pure_ (i := 6) (N := some 56) (v := ?_) (a' := ?_) #[true, true, true, true, true, true, true, false, false] rfl rfl (by kernel_rfl) (fun _ _ _ h => h) (Or.inl ⟨by rfl, ?_⟩) ?_ ?_
                    rotate_left
                    · intro w'
                      go_simp
                      with_reducible rfl
                    rotate_left
                    · simp only [Act.put, List.setIfInBounds_toArray, List.set_cons_zero, List.set_cons_succ, i64_w, i32_w]
                      rfl
                    refine pure_ (i := 7) (N := some 57) (v := ?_) (a' := ?_) #[true, true, true, true, true, true, true, true, false] rfl rfl (by kernel_rfl) (fun _ _ _ h => h) (Or.inl ⟨by rfl, ?_⟩) ?_ ?_
                    rotate_left
                    · intro w'
                      go_simp
                      with_reducible rfl
                    rotate_left
                    · simp only [Act.put, List.setIfInBounds_toArray, List.set_cons_zero, List.set_cons_succ, i64_w, i32_w]
                      rfl
                    refine last_ (i := 8) (N := none) #[true, true, true, true, true, true, true, true, true] rfl rfl (by kernel_rfl) (by decide) (fun K hK => ?_)
                    refine skip_ (w1 := ?_) (by rfl) rfl ?_ ?_
                    rotate_left
                    · go_simp
                      rfl
                    refine hK.out _ _ ?_
                    clear hK K
                    refine done_ (by kernel_rfl) ?_

                    have hpw : wrap64 ((2 : Int) ^ k) = (2 : Int) ^ k := by
                      obtain rfl | rfl | rfl | rfl : k = 0 ∨ k = 1 ∨ k = 2 ∨ k = 3 := by omega
                      all_goals simp [wrap64]
                    have h2k : (2 : Int) ^ k ≠ 0 := by
                      obtain rfl | rfl | rfl | rfl : k = 0 ∨ k = 1 ∨ k = 2 ∨ k = 3 := by omega
                      all_goals decide
                    rw [hpw]
                    clear hpw hHeld hold hfz b2
                    generalize hW4 : (W.setCell ((ad3.add (h * 8)).add p) (.int .i64 (2 ^ k))).drew = W4
                    have hset : W4 = (W.setCell ⟨g, h * 8 + p, none⟩ (.int .i64 (2 ^ k))).drew := by rw [← hW4, HADD2.out]
                    clear hW4
                    have HROW4 := Lib.hid (show kRow.C W4 (some ad3) l.length (setAt l h p (2 ^ k)) by
                      have hro := HROW.out
                      rw [HAD3.out] at hro ⊢
                      rw [hset]
                      exact Kd.C_drew (kRow_set hro h p hlt (by omega) (by rw [HXD.out]; exact hltp) (2 ^ k)))
                    have HY4 := Lib.hid (show W4.heap[w2.heap.size]? = some (.cells #[.int .i64 n, .slice (some ad) l.length c, .slice (some ad3) l.length rc, .map (some m)] 72 (0, 0)) by rw [hset]; exact blk_drew (blk_far HY.out (by show w2.heap.size ≠ g; omega) _))
                    have HMAP4 := Lib.hid (show MapFn 3 W4 m initF by
                      rw [hset]
                      refine (HMAP.out.set _ _ (fun e => ?_)).drew
                      obtain ⟨arr, clock, h2, _⟩ := HMAP.out
                      have h3 := HGC.out
                      simp only at e
                      rw [← e, h2] at h3
                      cases h3)
                    have HL4 := Lib.hid (show Kd.R (Kd.int .i64) 3 W4 wm.heap.size (fun _ => True) _ (worstTo n l h p s k) by rw [hset]; exact Kd.R_drew (Kd.R_set HL3.out HGC.out (by intro q hq; simp at hq; first | (subst hq; decide) | (rcases hq with rfl | hq; decide; exact absurd hq (by simp [Kd.int, Kd.scalar]))) (h * 8 + p) _))
                    have HJ4 := Lib.hid (show Below wm.heap.size wm W4 by rw [hset]; exact (HJ3.out.setCell (by show _ ≤ g; omega) _).drew)
                    have HB4 := Lib.hid ((HB.out.trans (HI.out.mono (below_size HB.out))).trans (HJ4.out.mono (Nat.le_trans (below_size HB.out) (below_size HI.out))))
                    clear hset HL3 HJ3 HROW HY HMAP HGC
                    have hbk : Bk n (some ad3) m (setAt l h p (2 ^ k)) W4 := ⟨HG.out.below HB4.out, by rw [setAt_length]; exact HROW4.out, initF, HMAP4.out, memo_init _ _⟩
                    have hcp := calls_pairs n hn8 (some ad) l.length c (some ad3) rc m (setAt l h p (2 ^ k)) (by rw [setAt_length]; exact h6) W4 hbk (by rw [setAt_length]; exact hrc) (setAt_rows8 HV.out.rows8 h p _ h2k hlt)
                    rw [setAt_length] at hcp
                    have HCP := Lib.hid hcp; clear hcp
                    have HBK4 := Lib.hid hbk; clear hbk
                    obtain ⟨d0, d1, d2, d3⟩ : W4.cell? ⟨w2.heap.size, 0, none⟩ = some (.int .i64 n) ∧ W4.cell? ⟨w2.heap.size, 1, none⟩ = some (.slice (some ad) l.length c) ∧ W4.cell? ⟨w2.heap.size, 2, none⟩ = some (.slice (some ad3) l.length rc) ∧ W4.cell? ⟨w2.heap.size, 3, none⟩ = some (.map (some m)) := ⟨blk_cell HY4.out 0, blk_cell HY4.out 1, blk_cell HY4.out 2, blk_cell HY4.out 3⟩
                    clear h2k
                    go_wp2_with (first | (go_at_call 76; refine HCP.out.mono ?_; rintro e w5 ⟨rfl, hg5⟩; have HL5 := Lib.hid (turn_R (b := 0) HL4.out hg5 (fun r e => by cases e; obtain ⟨arr, clock, hq, _⟩ := HMAP4.out; exact ⟨Nat.zero_le _, _, hq, rfl⟩)); have HJ5 := Lib.hid (grown_Below HJ4.out hmm hg5); clear hg5) | ((with_reducible refine gate_builtin (b := .append) (xs := #[.tmp 58, .tmp 61]) rfl ?_); at_builtin; refine Kd.R_append (Kd.int .i64) (w0 := wm) wm.heap.size rfl (.tmp 58) (.tmp 61) 26 3 (.int .i64 0) 8 rfl Tryd.underlying26 infoInt rfl (by decide) (by omega) _ (worstTo n l h p s k) (pairsB n (setAt l h p (2 ^ k)) : Int) [.int .i64 (pairsB n (setAt l h p (2 ^ k)) : Nat)] (fun _ => True) (fun _ => False) rfl rfl ?aP (fun _ hk => hk.elim) ?aF ?aO ?aB ?aS ?aL ?_; (case aP => exact rfl); (case aF => exact (fun _ _ => trivial)); (case aO => exact HL5.out); (case aB => exact HJ5.out); (case aS => exact below_size HJ5.out); (case aL => have := worst_len n l h p s k; omega); intro v2 w6 ho hb6 hg6 hat))
                    obtain ⟨A2, c2, rfl, _, _⟩ := Kd.R_reads ho
                    go_roundw
                    case rel => exact ⟨k + 1, by omega, by go_num, by rw [worst_yes HBB.out]; exact ho, Lib.hid hb6⟩
                    case measure => simp [intOf]; omega
                · obtain rfl : k = 4 := by omega
                  obtain ⟨A2, c2, rfl, hle2, hC2⟩ := Kd.R_reads HL.out
                  have HC2 := Lib.hid hC2; clear hC2
                  obtain ⟨b, hb0⟩ : ∃ b, worstB n l h p = b := ⟨_, rfl⟩
                  rw [hb0] at HN2 HW
                  clear hb0
                  by_cases hneg : z.2.2 < 0
                  · have HN3 := Lib.hid (HN2.out.trans (show _ = ((h : Int), (p : Int), b) by rw [if_neg (by rw [HKN.out]; simp)]; simp [hneg]))
                    go_wp2_with (go_at_call 77; refine (calls_greatest 0 A2 c2 (worstTo n l h p s 4) _ HC2.out hle2).mono ?_; rintro e w5 ⟨he, hb⟩; rw [← HW.out] at he; subst he; have HJ5 := Lib.hid (HJ.out.trans (hb.mono (below_size HJ.out))); clear hb)
                    go_roundw
                    case rel => exact ⟨p + 1, by omega, by go_num, by rw [HN3.out], by rw [HN3.out], by rw [HN3.out], HI.out.trans (HJ5.out.mono (below_size HI.out))⟩
                    case measure => simp [intOf]; omega
                  · by_cases hbz : b < z.2.2
                    · have HN3 := Lib.hid (HN2.out.trans (show _ = ((h : Int), (p : Int), b) by rw [if_neg (by rw [HKN.out]; simp)]; simp [hbz]))
                      go_wp2_with (go_at_call 77; refine (calls_greatest 0 A2 c2 (worstTo n l h p s 4) _ HC2.out hle2).mono ?_; rintro e w5 ⟨he, hb⟩; rw [← HW.out] at he; subst he; have HJ5 := Lib.hid (HJ.out.trans (hb.mono (below_size HJ.out))); clear hb)
                      go_roundw
                      case rel => exact ⟨p + 1, by omega, by go_num, by rw [HN3.out], by rw [HN3.out], by rw [HN3.out], HI.out.trans (HJ5.out.mono (below_size HI.out))⟩
                      case measure => simp [intOf]; omega
                    · have HN3 := Lib.hid (HN2.out.trans (show _ = z by rw [if_neg (by rw [HKN.out]; simp), if_neg (by simp [hneg, hbz])]))
                      go_wp2_with (go_at_call 77; refine (calls_greatest 0 A2 c2 (worstTo n l h p s 4) _ HC2.out hle2).mono ?_; rintro e w5 ⟨he, hb⟩; rw [← HW.out] at he; subst he; have HJ5 := Lib.hid (HJ.out.trans (hb.mono (below_size HJ.out))); clear hb)
                      go_roundw
                      case rel => exact ⟨p + 1, by omega, by go_num, by rw [HN3.out], by rw [HN3.out], by rw [HN3.out], HI.out.trans (HJ5.out.mono (below_size HI.out))⟩
                      case measure => simp [intOf]; omega
          · obtain rfl : p = x.length := by omega
            go_wp2_with fail
            go_roundw
            case rel => exact ⟨h + 1, by omega, by go_num, by rw [HN.out, hz], by rw [HN.out, hz], by rw [HN.out, hz], blk_below HX.out HI.out, HB.out.trans (HI.out.mono (below_size HB.out))⟩
            case measure => simp [intOf]; omega
      · obtain rfl : h = l.length := by omega
        rw [hz0] at HDD ⊢
        by_cases hneg : z0.2.2 < 0
        · go_wp2_with fail
          rw [HDD.out, if_pos hneg]
          exact bodyPost_ret (results_tmp3 rfl _ _ _) rfl ⟨rfl, HB.out⟩
        · go_wp2_with fail
          rw [HDD.out, if_neg (by omega)]
          exact bodyPost_ret (results_tmp3 rfl _ _ _) rfl ⟨rfl, HB.out⟩
  · have hck : checkD R l = 70 := by simp [checkD, hval]
    have hfd : lookD R l = (0, 0, 70) := by simp [lookD, hval]
    rw [hfd]
    go_enter Tryd.func47, Tryd.ntmps47
    go_wp2_with (go_at_call 20; refine (calls_Check R A c l _ (Kd.C_below HR.out HBa.out) hc).mono ?_; rintro e w1 ⟨he, hb⟩; rw [hck] at he; subst he; have HB := Lib.hid (HBa.out.trans (hb.mono (by simp))))
    exact bodyPost_ret (results_tmp3 rfl _ _ _) rfl ⟨rfl, HB.out⟩
end Go.Proofs.YtdllacjkacmghaaDoorD
