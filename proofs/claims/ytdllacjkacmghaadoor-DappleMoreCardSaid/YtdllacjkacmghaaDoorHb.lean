/- Results that are cut to their lengths; small laws. -/
import Derived.Test.YtdllacjkacmghaaDoorHa
import Derived.RangeFuncBox
import Derived.Laws.ResultCell
import Derived.Laws.BitsLemmas
namespace Go.Proofs.YtdllacjkacmghaaDoorH
set_option linter.unusedVariables false
set_option linter.unusedSimpArgs false
open Go.RowKit Go.Proofs.YtdllacjkacmghaaDoorW.PrintWords Go.Proofs.YtdllacjkacmghaaDoorW.PrintLast Go.Proofs.YtdllacjkacmghaaDoorW.PrintMore
theorem encs_map {α : Type} (f : α → Value) (l : List α) : encs f l = l.map f := by
  apply List.ext_getElem?
  intro j
  simp [encs]
/-- x[:len(x):len(x)] of a row of one's own: what it shows -/
theorem cut_V {e : TypeId} {w : World} {base : Nat} {A : Option Addr} {n c : Nat} {xs : List Int} (h : w.ownsRow base e 1 (.slice A n c) xs.length (xs.map (Value.int .i64))) :
    Kd.V (Kd.int .i64) e w base (fun k => base ≤ k) (.slice A xs.length xs.length) xs := by
  have h1 : (Kd.int .i64).R e w base (fun k => base ≤ k) (.slice A n c) xs := Kd.R_of_own (by rw [encs_map]; exact h) (fun k hk => own_base h k hk)
  have h2 := Kd.V_at (Kd.R_V (base' := base) h1)
  exact Kd.V_mk (Nat.le_refl _) h2.2.2
theorem and1 (x : Int) (h0 : 0 ≤ x) (h1 : x < 256) : Go.bits .and .i64 x 1 = x % 2 :=
  bits_mask .i64 8 (by decide) (fun n h0 h1 => by rw [IntKind.wrap_i64]; omega) 1 (by decide) x h0 h1
/-- is bit k of s set -/
theorem bit_at (s k : Nat) (hs : s < 256) : (Go.bits .and .i64 ((s : Int) / 2 ^ k) 1 == 1) = (s / 2 ^ k % 2 == 1) := by
  have e : (s : Int) / 2 ^ k = ((s / 2 ^ k : Nat) : Int) := by simp
  have hle : s / 2 ^ k ≤ s := Nat.div_le_self _ _
  rw [e]
  generalize s / 2 ^ k = q at hle ⊢
  rw [and1 _ (by omega) (by omega), Bool.eq_iff_iff]
  simp only [beq_iff_eq]
  omega
/-- behind an append to a row of one's own, and a store into the variable's box -/
theorem keep_appended {W w1 : World} {base e size n : Nat} {v u : Value} {xs : List Value} {o : Obj} {k t b : Nat} {cs : Array Value} {fr : Nat × Nat} (hk : W.heap[k]? = some (.cells cs t (0, 0))) (hrow : W.ownsRow base e size v n xs) (hne : e ≠ t) (hg : (W.alloc o).grownBy w1 v.ownBlock) (hb : b ≠ k) :
    (w1.setCell ⟨b, 0, none⟩ u).heap[k]? = W.heap[k]? := by
  have hlt := blk_lt hk
  refine (Below.heap_setCell w1 _ u k (fun e => hb e.symm)).trans ((hg.block k (by simp; omega) (own_ne hrow hk hne)).trans ?_)
  exact (blk_alloc hk o).trans hk.symm
/-- A loop over an iterator whose one variable is slot s. -/
theorem rangeFunc_var {P : Program} {n : Nat} {α : Type} {g : Operand} {p s : Tmp} {assign body : Code} {Q : Exit → Act → World → Prop} {a : Act} {w : World}
    (h1 : 1 ≤ n) {gf : Nat} {lb : Array Value} (hg : a.eval g = .func (.func gf) #[] lb) (eg : ∀ args w, (callFunc gf args).run P w = .ok (.enter gf args) w)
    {enc : α → Value} {Kp : World → World → Prop} {S Sp : List α → Prop} {N : Nat} (hseq : SeqStopsK Fence.wide (n - 1) P gf lb (fun x => #[enc x]) Kp S Sp N w) (hKp : KeepsOf w.heap.size Kp)
    (I : List α → World → Prop) (Ix : Code → List α → World → Prop) (hI : OwnFrom w.heap.size I) (hIx : ∀ c, OwnFrom w.heap.size (Ix c)) (h0 : I [] w)
    (hassign : ∀ (l : Nat) (x : α) (W : World) (K : Act → World → Prop), K { tmps := (a.tmps.setIfInBounds p (enc x)).setIfInBounds s (enc x), defers := [] } W → assign.wpIn (Fence.wide.inRound l) (n - 1 - 1) P (Exit.then K (fun _ _ _ => False)) { tmps := a.tmps.setIfInBounds p (enc x), defers := [] } W)
    (hbody : ∀ (l : Nat) (pre : List α) (x : α) (W : World), I pre W → pre.length < N → body.wpIn (Fence.wide.inRound l) (n - 1 - 1) P (ownPostG w.heap.size Kp I Ix (pre ++ [x]) W) { tmps := (a.tmps.setIfInBounds p (enc x)).setIfInBounds s (enc x), defers := [] } W)
    (hdone : ∀ (D : Nat) (xs : List α) (W : World), w.heap.size ≤ D → S xs → I xs W → W.heap[D]? = some (.deferred (some [])) → Q .normal { a with defers := { target := .collected D, args := #[] } :: a.defers } W)
    (hstop : ∀ (D : Nat) (c : Code) (pre : List α) (W : World), w.heap.size ≤ D → Sp pre → Ix c pre W → W.heap[D]? = some (.deferred (some [])) → c.wpIn Fence.wide n P Q { a with defers := { target := .collected D, args := #[] } :: a.defers } W) :
    (Code.rangeFunc g #[p] assign body).wpIn Fence.wide n P Q a w :=
  wpIn_rangeFunc_ownG rfl h1 hg trivial eg hseq (fun h k => hKp.1 h k) hKp.2 (Below.refl _ _) (fun _ => rfl) I Ix hI hIx h0 (fun x => { tmps := (a.tmps.setIfInBounds p (enc x)).setIfInBounds s (enc x), defers := [] }) (fun l x W K hK => by simpa using hassign l x W K hK) hbody hdone hstop
end Go.Proofs.YtdllacjkacmghaaDoorH
