/- A loop over an iterator that itself writes an elder map (a memo): the iterator and the body both may turn one block m, and both keep an invariant of it. -/
import Derived.Test.YtekjlpldooihhaaDoorProg
import Derived.WalkKit
import Derived.WalkSpells
import Derived.WalkLawsBesides
import Derived.Laws.Rows
import Derived.Laws.CopyOwn
import Derived.Lib.Hide
import Derived.Outline
import Derived.RangeFuncNested
import Derived.RangeFuncBound
import Derived.RangeFuncCalls
import Derived.RangeFuncLeaves
import Derived.Shelf.Abstract
import Derived.Shelf.RegionOpen
import Derived.OwnWalkIn
import Derived.TacticsInMore
import Derived.LoopNIn
import Derived.LoopIn
import Derived.Maps.AppendAt
import Derived.Deep.RegionHeld3
import Derived.StillTailTactics
import Derived.Test.YtekjlpldooihhaaDoorWNEv
import Derived.RangeFuncBox
import Derived.Laws.ResultCell
import Derived.Laws.BitsLemmas
import Derived.ChangeKeysEq
import Derived.Test.YtekjlpldooihhaaDoorRows
import Derived.LaidHandle
import Derived.RowKitVeiled
namespace Go.Proofs.YtekjlpldooihhaaDoorH
set_option linter.unusedVariables false
set_option linter.unusedSimpArgs false
open Go.RowKit Go.Proofs.YtekjlpldooihhaaDoorW.PrintWords Go.Proofs.YtekjlpldooihhaaDoorW.PrintLast Go.Proofs.YtekjlpldooihhaaDoorW.PrintMore
def keyA (ks : List Int) : Value := .agg ((ks.map (Value.int .i64)).toArray)
def intOf? : Value → Option Int
  | .int .i64 n => some n
  | _ => none
def keyOf : Value → Option (List Int)
  | .agg cs => cs.toList.mapM intOf?
  | _ => none
theorem keyOf_keyA (ks : List Int) : keyOf (keyA ks) = some ks := by
  have : ∀ l : List Int, (l.map (Value.int .i64)).mapM intOf? = some l := by
    intro l
    induction l with
    | nil => rfl
    | cons a l ih => simp [List.mapM_cons, intOf?, ih]
  simp [keyOf, keyA, this]
def entryOf (es : List MapEntry) (ks : List Int) : Option Value := (es.find? fun e => keyOf e.key == some ks).map (·.val)
def MapFn (n : Nat) (w : World) (m : Nat) (f : List Int → Option Value) : Prop :=
  ∃ arr clock, w.heap[m]? = some (.map arr clock) ∧ (∀ e ∈ arr.toList, ∃ ks, ks.length = n ∧ e.key = keyA ks) ∧ ∀ ks, ks.length = n → entryOf arr.toList ks = f ks
theorem MapFn.lt {n : Nat} {w : World} {m : Nat} {f : List Int → Option Value} (h : MapFn n w m f) : m < w.heap.size := by
  obtain ⟨arr, clock, h1, _⟩ := h
  exact (Array.getElem?_eq_some_iff.1 h1).1
theorem MapFn.same {n : Nat} {w w1 : World} {m : Nat} {f : List Int → Option Value} (h : MapFn n w m f) (e : w1.heap[m]? = w.heap[m]?) : MapFn n w1 m f := by
  obtain ⟨arr, clock, h1, h2⟩ := h
  exact ⟨arr, clock, e.trans h1, h2⟩
theorem MapFn.below {n : Nat} {w w1 : World} {m : Nat} {f : List Int → Option Value} (h : MapFn n w m f) (hb : Below w.heap.size w w1) : MapFn n w1 m f := h.same (hb.block m h.lt)
theorem MapFn.alloc {n : Nat} {w : World} {m : Nat} {f : List Int → Option Value} (h : MapFn n w m f) (o : Obj) : MapFn n (w.alloc o) m f := h.below (below_alloc (Below.refl _ _) o)
theorem MapFn.drew {n : Nat} {w : World} {m : Nat} {f : List Int → Option Value} (h : MapFn n w m f) : MapFn n w.drew m f := h.same rfl
theorem MapFn.drewN {n : Nat} {w : World} {m : Nat} {f : List Int → Option Value} (h : MapFn n w m f) (k : Nat) : MapFn n (w.drewN k) m f := h.same rfl
theorem MapFn.imp {n : Nat} {w : World} {m : Nat} {f g : List Int → Option Value} (h : MapFn n w m f) (e : ∀ ks, ks.length = n → f ks = g ks) : MapFn n w m g := by
  obtain ⟨arr, clock, h1, h2, h3⟩ := h
  exact ⟨arr, clock, h1, h2, fun ks hk => (h3 ks hk).trans (e ks hk)⟩
theorem MapFn.new (n : Nat) (w : World) : MapFn n (w.alloc (.map #[] 0)) w.heap.size (fun _ => none) :=
  ⟨#[], 0, blk_new w _, by simp, fun ks _ => by simp [entryOf]⟩
section
variable {P : Program} {K : TypeId} {n : Nat}
theorem getMap {w : World} {m : Nat} {arr : Array MapEntry} {clock : Nat} (h : w.heap[m]? = some (.map arr clock)) : (getObj m).run P w = .ok (.map arr clock) w := by simp [getObj, Sem.run, h]
theorem setMap {w : World} {m : Nat} {arr : Array MapEntry} {clock : Nat} (o : Obj) (h : w.heap[m]? = some (.map arr clock)) : (setObj m o).run P w = .ok () (w.putObj m o) := by simp [setObj, Sem.run, h, World.putObj]
structure KeyEq (P : Program) (K n : Nat) : Prop where
  desc : ∃ fs, P.underlying K = some (.struct fs)
  check : ∀ (em : Bool) (a : List Int), a.length = n → ∀ w, (Instr.checkKey em 10000 K (keyA a)).run P w = .ok () w
  eq : ∀ a b : List Int, a.length = n → b.length = n → ∀ w, (Op.equal K (keyA a) (keyA b)).run P w = .ok (decide (a = b)) w
theorem run_findAsking (hK : KeyEq P K n) (ks : List Int) (hk : ks.length = n) (w : World) : ∀ (es : List MapEntry) (i : Nat), (∀ e ∈ es, ∃ ls, ls.length = n ∧ e.key = keyA ls) →
    (Instr.findAsking K (keyA ks) es i).run P w = .ok (((es.zipIdx i).find? fun p => keyOf p.1.key == some ks).map fun p => (p.2, p.1.val)) w := by
  intro es
  induction es with
  | nil => intro i _; simp [Instr.findAsking]
  | cons e es ih =>
    intro i h
    obtain ⟨ls, hl, he⟩ := h e List.mem_cons_self
    rw [Instr.findAsking]
    simp only [Sem.run_bind, he, hK.eq ks ls hk hl w, Result.andThen_ok, List.zipIdx_cons, List.find?_cons, keyOf_keyA]
    by_cases hq : ks = ls
    · subst hq; simp
    · have h1 : (some ls == some ks) = false := by simpa using fun h => hq h.symm
      simp only [hq, decide_false, Bool.false_eq_true, ↓reduceIte, h1]
      exact ih (i + 1) (fun e he => h e (List.mem_cons_of_mem _ he))
theorem run_findKey (hK : KeyEq P K n) (ks : List Int) (hk : ks.length = n) (w : World) (es : List MapEntry) (h : ∀ e ∈ es, ∃ ls, ls.length = n ∧ e.key = keyA ls) :
    (Instr.findKey K (keyA ks) es).run P w = .ok (((es.zipIdx 0).find? fun p => keyOf p.1.key == some ks).map fun p => (p.2, p.1.val)) w := by
  obtain ⟨fs, hd⟩ := hK.desc
  unfold Instr.findKey
  simp only [Sem.run_bind, run_underlying hd, Result.andThen_ok]
  cases es with
  | nil => simp [Instr.findNow]
  | cons e es =>
    obtain ⟨ls, hl, he⟩ := h e List.mem_cons_self
    have h0 : Instr.findNow (.struct fs) (keyA ks) (e :: es) 0 = none := by simp [Instr.findNow, Instr.sameNow]
    rw [h0]
    exact run_findAsking hK ks hk w (e :: es) 0 h
theorem find_zip {α : Type} (p : α → Bool) : ∀ (es : List α) (i : Nat), (((es.zipIdx i).find? fun q => p q.1).map fun q => q.1) = es.find? p := by
  intro es
  induction es with
  | nil => intro i; rfl
  | cons e es ih => intro i; simp only [List.zipIdx_cons, List.find?_cons]; cases p e <;> simp [ih]
theorem run_lookup_fn (T E : TypeId) (hT : P.underlying T = some (.map K E)) (hK : KeyEq P K n) {z : Value} (hz : ∀ w, (zeroValue E).run P w = .ok z w) {w : World} {m : Nat} {f : List Int → Option Value} (h : MapFn n w m f) (ks : List Int) (hk : ks.length = n) (ok : Bool) :
    (Instr.lookup T (.map (some m)) (keyA ks) ok).run P w = .ok (if ok then .tuple #[(f ks).getD z, .bool (f ks).isSome] else (f ks).getD z) w := by
  obtain ⟨arr, clock, h1, h2, h3⟩ := h
  have h4 := h3 ks hk
  have hf := run_findKey hK ks hk w arr.toList h2
  have hz4 := find_zip (fun e : MapEntry => keyOf e.key == some ks) arr.toList 0
  unfold entryOf at h4
  rw [← hz4] at h4
  unfold Instr.lookup
  simp only [Sem.run_bind, run_underlying hT, Result.andThen_ok, getMap h1, Sem.run_pure, hK.check _ ks hk, hf]
  revert h4
  cases ((arr.toList.zipIdx 0).find? fun p => keyOf p.1.key == some ks) with
  | none => intro h4; simp only [Option.map_none] at h4 ⊢; rw [← h4]; cases ok <;> simp [hz]
  | some p => intro h4; simp only [Option.map_some] at h4 ⊢; rw [← h4]; cases ok <;> simp
theorem run_insert_new (T E : TypeId) (hT : P.underlying T = some (.map K E)) (hK : KeyEq P K n) {W : World} {m : Nat} (h : W.heap[m]? = some (.map #[] 0)) (ks : List Int) (hk : ks.length = n) (v : Value) :
    (Instr.mapUpdate T (.map (some m)) (keyA ks) v).run P W = .ok () (W.putObj m (.map #[⟨keyA ks, v, 0⟩] 1)) := by
  have hf := run_findKey hK ks hk W [] (by simp)
  unfold Instr.mapUpdate
  simp only [Sem.run_bind, run_underlying hT, Result.andThen_ok, getMap h, hK.check _ ks hk, hf]
  simp [setMap _ h]
theorem putObj_new (W : World) (o o' : Obj) : (W.alloc o).putObj W.heap.size o' = W.alloc o' := by
  simp only [World.alloc, World.putObj, World.mk.injEq, and_true]
  apply Array.ext_getElem?
  intro i
  rw [Array.getElem?_setIfInBounds]
  by_cases h : W.heap.size = i
  · subst h; simp
  · rw [if_neg h, Array.getElem?_push, Array.getElem?_push, if_neg (fun e => h e.symm), if_neg (fun e => h e.symm)]
theorem putObj_drew (W : World) (m : Nat) (o : Obj) : W.drew.putObj m o = (W.putObj m o).drew := rfl
theorem MapFn.one (W : World) (ks : List Int) (v : Value) (m : Nat) (h : W.heap[m]? = some (.map #[⟨keyA ks, v, 0⟩] 1)) : MapFn ks.length W m (fun ls => if ls = ks then some v else none) :=
  ⟨_, _, h, fun e he => ⟨ks, rfl, by simp at he; rw [he]⟩, fun ls _ => by
    by_cases e : ls = ks
    · subst e; simp [entryOf, keyOf_keyA]
    · have : (some ks == some ls) = false := by simpa using fun h => e h.symm
      simp [entryOf, keyOf_keyA, List.find?_cons, this, e]⟩
theorem sameBits_ints : ∀ (d : Nat) (ks : List Int), 2 ≤ d → Instr.sameBits d (keyA ks) (keyA ks) = true := by
  intro d ks hd
  obtain ⟨d, rfl⟩ : ∃ e, d = e + 2 := ⟨d - 2, by omega⟩
  unfold keyA
  simp only [Instr.sameBits, beq_self_eq_true, Bool.true_and]
  rw [List.all_eq_true]
  intro p hp
  have : p.1 = p.2 ∧ ∃ a : Int, p.1 = .int .i64 a := by
    simp only [List.zip_map_left, List.zip_map_right, List.mem_map] at hp
    obtain ⟨⟨x, y⟩, ⟨⟨x', y'⟩, hz, hzz⟩, he⟩ := hp
    have : x' = y' := by
      have hzi : ∀ (l : List Int) (q : Int × Int), q ∈ l.zip l → q.1 = q.2 := by
        intro l; induction l with
        | nil => simp
        | cons a l ih => intro q hq; simp only [List.zip_cons_cons, List.mem_cons] at hq; rcases hq with rfl | hq; rfl; exact ih q hq
      exact hzi ks _ hz
    subst this
    simp at hzz he
    obtain ⟨rfl, rfl⟩ := hzz
    subst he
    exact ⟨rfl, _, rfl⟩
  obtain ⟨h1, a, h2⟩ := this
  obtain ⟨x, y⟩ := p
  simp only at h1 h2
  subst h1
  subst h2
  simp [Instr.sameBits]
theorem run_mapUpdate_fn (T E : TypeId) (hT : P.underlying T = some (.map K E)) (hK : KeyEq P K n) {w : World} {m : Nat} {f : List Int → Option Value} (h : MapFn n w m f) (ks : List Int) (hk : ks.length = n) (v : Value) :
    ∃ w1, (Instr.mapUpdate T (.map (some m)) (keyA ks) v).run P w = .ok () w1 ∧ MapFn n w1 m (fun ls => if ls = ks then some v else f ls) ∧ w.grownBy w1 (some m) := by
  obtain ⟨arr, clock, h1, h2, h3⟩ := h
  have hf := run_findKey hK ks hk w arr.toList h2
  have hlt : m < w.heap.size := (Array.getElem?_eq_some_iff.1 h1).1
  unfold Instr.mapUpdate
  simp only [Sem.run_bind, run_underlying hT, Result.andThen_ok, getMap h1, hK.check _ ks hk, hf]
  have hz4 := fun ls : List Int => find_zip (fun e : MapEntry => keyOf e.key == some ls) arr.toList 0
  cases hq : ((arr.toList.zipIdx 0).find? fun p => keyOf p.1.key == some ks) with
  | none =>
    refine ⟨w.putObj m (.map (arr.push { key := keyA ks, val := v, born := clock }) (clock + 1)), ?_, ⟨_, _, World.putObj_heap_same hlt, ?_, ?_⟩, grownBy_putObj' w m _⟩
    · simp [setMap _ h1]
    · intro e he
      simp only [Array.toList_push, List.mem_append, List.mem_singleton] at he
      rcases he with he | rfl
      · exact h2 e he
      · exact ⟨ks, hk, rfl⟩
    · intro ls hl
      have hn : arr.toList.find? (fun e : MapEntry => keyOf e.key == some ks) = none := by rw [← hz4 ks, hq]; rfl
      have h3' := h3 ls hl
      unfold entryOf at h3' ⊢
      rw [Array.toList_push, List.find?_append]
      by_cases e : ls = ks
      · subst e
        simp [hn, keyOf_keyA]
      · have h1 : (some ks == some ls) = false := by simpa using fun h => e h.symm
        simp only [if_neg e, ← h3', List.find?_cons, keyOf_keyA, h1, List.find?_nil, Option.or_none]
  | some p =>
    obtain ⟨e0, i⟩ := p
    have hmem := List.mem_of_find?_eq_some hq
    have hpred := List.find?_some hq
    simp only [beq_iff_eq] at hpred
    obtain ⟨hi0, hi1, hi2⟩ := List.mem_zipIdx hmem
    simp only [Nat.zero_add, Nat.sub_zero, Array.length_toList] at hi1 hi2
    have hkey : e0.key = keyA ks := by
      obtain ⟨ls, _, hl2⟩ := h2 e0 (by rw [hi2]; exact Array.getElem_mem_toList _)
      rw [hl2, keyOf_keyA] at hpred
      rw [hl2, Option.some.inj hpred]
    have hget : arr[i]? = some e0 := by rw [hi2, Array.getElem_toList]; exact Array.getElem?_eq_getElem hi1
    have hold : ((arr[i]?).map (·.key)).getD (keyA ks) = keyA ks := by rw [hget]; simp [hkey]
    have hmod : arr.modify i (fun e => { e with key := keyA ks, val := v }) = arr.modify i (fun e => { e with val := v }) := by
      apply Array.ext_getElem?
      intro j
      rw [Array.getElem?_modify, Array.getElem?_modify]
      by_cases hj : i = j
      · subst hj; rw [hget]; simp [← hkey]
      · simp [hj]
    refine ⟨w.putObj m (.map (arr.modify i fun e => { e with val := v }) clock), ?_, ⟨_, _, World.putObj_heap_same hlt, ?_, ?_⟩, grownBy_putObj' w m _⟩
    · simp only [Option.map_some, Sem.run_bind, hold, Instr.keyThatStays, sameBits_ints 10000 ks (by omega), ↓reduceIte, Sem.run_pure, Result.andThen_ok, hmod]
      simp [setMap _ h1]
    · intro e he
      rw [Array.mem_toList_iff] at he
      obtain ⟨j, hj, rfl⟩ := Array.getElem_of_mem he
      rw [Array.getElem_modify]
      have hj' : j < arr.size := by simpa using hj
      obtain ⟨ls, hl⟩ := h2 arr[j] (Array.getElem_mem_toList _)
      split
      · exact ⟨ls, hl⟩
      · exact ⟨ls, hl⟩
    · intro ls hl
      have h3' := h3 ls hl
      unfold entryOf at h3' ⊢
      have hm : ∀ (l : List MapEntry) (k : Nat) (g : MapEntry → MapEntry), (∀ e, (g e).key = e.key) → (l.modify k g).find? (fun e => keyOf e.key == some ls) = ((l.zipIdx 0).find? (fun p => keyOf p.1.key == some ls)).map (fun p => if p.2 = k then g p.1 else p.1) := by
        intro l k g hg
        have gen : ∀ (l : List MapEntry) (k s : Nat), (l.modify k g).find? (fun e => keyOf e.key == some ls) = ((l.zipIdx s).find? (fun p => keyOf p.1.key == some ls)).map (fun p => if p.2 = k + s then g p.1 else p.1) := by
          intro l
          induction l with
          | nil => intro k s; simp
          | cons e l ih =>
            intro k s
            cases k with
            | zero =>
              simp only [List.modify_zero_cons, List.find?_cons, List.zipIdx_cons, hg, Nat.zero_add]
              cases hc : (keyOf e.key == some ls) with
              | true => simp
              | false =>
                have := find_zip (fun e : MapEntry => keyOf e.key == some ls) l (s + 1)
                simp only
                rw [← this]
                cases hw : (l.zipIdx (s + 1)).find? (fun p => keyOf p.1.key == some ls) with
                | none => rfl
                | some p =>
                  have := (List.mem_zipIdx (List.mem_of_find?_eq_some hw)).1
                  simp only [Option.map_some]
                  rw [if_neg (by omega)]
            | succ k =>
              simp only [List.modify_succ_cons, List.find?_cons, List.zipIdx_cons]
              cases hc : (keyOf e.key == some ls) with
              | true => simp only [Option.map_some]; rw [if_neg (by omega)]
              | false => simp only; rw [ih k (s + 1)]; congr 1; funext p; congr 1; simp only [eq_iff_iff]; omega
        simpa using gen l k 0
      rw [show (arr.modify i fun e => { e with val := v }).toList = arr.toList.modify i (fun e => { e with val := v }) from by simp]
      refine (congrArg (Option.map (·.val)) (hm arr.toList i (fun e => { e with val := v }) (fun e => rfl))).trans ?_
      show _ = if ls = ks then some v else f ls
      by_cases e : ls = ks
      · subst e
        rw [if_pos rfl, hq]
        simp
      · rw [if_neg e, ← h3', ← hz4 ls]
        cases hw : (arr.toList.zipIdx 0).find? (fun p => keyOf p.1.key == some ls) with
        | none => rfl
        | some p =>
          simp only [Option.map_some]
          split
          · rename_i hpi
            exfalso
            obtain ⟨_, hp1, hp2⟩ := List.mem_zipIdx (List.mem_of_find?_eq_some hw)
            have hp3 := List.find?_some hw
            simp only [beq_iff_eq] at hp3
            have : p.1 = e0 := by rw [hp2, hi2]; congr 1
            rw [this, hkey, keyOf_keyA] at hp3
            exact e (Option.some.inj hp3).symm
          · rfl
end
section
variable {P : Program} {F : Fence} {n : Nat} {b : Frame} {a : Act} {k : List Item} {cs : List Frame} {w : World} {Q : Exit → Act → World → Prop}
theorem stepR_scope {c : Code} : step P (lone (b.atR a (.code (.scope c) :: k)) cs w) = .next (lone (b.atR a (.code c :: .inScope c :: k)) cs w) :=
  step_lone_go (by simp [stepG, stepG.exec, Frame.atR])
theorem stepR_inScope {c : Code} : step P (lone (b.atR a (.inScope c :: k)) cs w) = .next (lone (b.atR a k) cs w) :=
  step_lone_go (by simp [stepG, stepG.exec, Frame.atR])
theorem wpIn_scope {c : Code} (h : c.wpIn F n P (Exit.noGoto Q) a w) : (Code.scope c).wpIn F n P Q a w := by
  intro b k cs hro hb hr
  have h0 : (lone (b.atR a (.code (.scope c) :: k)) cs w).fenced P F := fenced_calm hb hr rfl
  obtain ⟨e, a₁, w₁, hq, harr⟩ := h b (.inScope c :: k) cs hro hb hr
  cases e with
  | normal => exact ⟨.normal, a₁, w₁, hq, .head h0 stepR_scope (StepsIn.trans harr (.one (fenced_calm hb hr rfl) stepR_inScope))⟩
  | exit id =>
    have hx : exitTo id (.inScope c :: k) = exitTo id k := by simp [exitTo]
    exact ⟨_, a₁, w₁, hq, fun k' hk => .head h0 stepR_scope (harr.1 k' (by rw [hx]; exact hk)),
      fun hr' hk => let ⟨k₁, h1, h2⟩ := harr.2 hr' (by rw [hx]; exact hk); ⟨k₁, h1, .head h0 stepR_scope h2⟩⟩
  | goto l => exact hq.elim
  | ret => exact ⟨_, a₁, w₁, hq, .of_steps (.one h0 stepR_scope) harr⟩
  | panic ch => exact ⟨_, a₁, w₁, hq, .of_steps (.one h0 stepR_scope) harr⟩
  | outgrown => exact ⟨_, a₁, w₁, hq, .of_steps (.one h0 stepR_scope) harr⟩
end
theorem goesV_ {P : Program} {ops : Array Oper} {Q : Exit → Act → World → Prop} {oi : Oper} {N : Option Tmp} {a : Act} {w : World} {K : Act → World → Prop} {f : FuncId} {fn : Func} {x : Operand} {fst cap : Array Value} {ars : Array Operand} {ts : Array TypeId} (hf : P.funcs[f]? = some fn) (hname : (fn.name == "runtime.NumGoroutine") = false) (hb : fn.body.isSome = true) (args : Array Value)
    (hw : Region.wanted oi (yielded ops a.tmps) = true) (hN : oi.dst = N) (hop : oi.op = .call { callee := .value x, args := ars, argTypes := ts }) (hx : a.eval x = .func (.func f) fst cap) (hargs : fst ++ ars.map a.eval ++ cap = args)
    (h : Calls P f args w fun e w' => ∃ v, e = .returned v ∧ K (a.put N v) w') : if Region.wanted oi (yielded ops a.tmps) = true then Oper.wp P oi a w K Q else K (a.put N undef) w := by
  refine call_ f args hw hN ?_ h
  have he := enters_ hf hname hb args w
  unfold execOp
  simp only [hop, resolve, hx]
  simp only [Deferred.ofValue, invoke, Sem.run_bind, Sem.run_pure, Result.andThen_ok]
  simpa [hargs] using he
theorem turn_cells {A B : World} {row : Option Nat} {b g : Nat} {cs : Array Value} {t : TypeId} {fr : Nat × Nat} (h : A.heap[g]? = some (.cells cs t fr)) (hg : A.grownBy B row) (hr : ∀ r, row = some r → b ≤ r ∧ ∃ o : Obj, A.heap[r]? = some o ∧ o.isCells = false) : B.heap[g]? = some (.cells cs t fr) := by
  refine (hg.block g (blk_lt h) (fun e => ?_)).trans h
  obtain ⟨_, o, ho, hc⟩ := hr g e.symm
  rw [h] at ho
  cases ho
  cases hc
theorem turn_map {A B : World} {row : Option Nat} {b n m : Nat} {f : List Int → Option Value} (h : MapFn n A m f) (hm : m < b) (hg : A.grownBy B row) (hr : ∀ r, row = some r → b ≤ r ∧ ∃ o : Obj, A.heap[r]? = some o ∧ o.isCells = false) : MapFn n B m f :=
  h.same (hg.block m h.lt (fun e => by have := (hr m e.symm).1; omega))
theorem turn_R {α : Type} {d : Kd α} {e base : Nat} {A B : World} {ok : Nat → Prop} {v : Value} {xs : List α} {row : Option Nat} {b : Nat} (h : d.R e A base ok v xs) (hg : A.grownBy B row) (hr : ∀ r, row = some r → b ≤ r ∧ ∃ o : Obj, A.heap[r]? = some o ∧ o.isCells = false) : d.R e B base ok v xs := by
  refine Kd.R_mono (Kd.R_move (Kd.R_bound h) (fun k hk => ?_)) (fun k hk => hk.1)
  obtain ⟨_, _, _, q, _, cells', hc⟩ := hk
  exact (turn_cells hc hg hr).trans hc.symm
def KeepsOf (B : Nat) (Kp : World → World → Prop) : Prop := (∀ {X Y Z : World}, Kp X Y → Kp Y Z → Kp X Z) ∧ ∀ (W : World) (l : Nat) (o o' : Obj), B ≤ l → W.heap[l]? = some o → o.isCells = false → o.isWalk = false → Kp W (W.putObj l o')
def KeepG (g : Nat) (W W' : World) : Prop := ∀ k, g ≤ k → k < g + 4 → W'.heap[k]? = W.heap[k]?
theorem KeepG.refl (g : Nat) (W : World) : KeepG g W W := fun _ _ _ => rfl
theorem KeepG.trans {g : Nat} {X Y Z : World} (h : KeepG g X Y) (k : KeepG g Y Z) : KeepG g X Z := fun i h1 h2 => (k i h1 h2).trans (h i h1 h2)
theorem KeepG.drew {g : Nat} {X Y : World} (h : KeepG g X Y) : KeepG g X Y.drew := h
theorem grownBy_putObj_at (W : World) (l : Nat) (o : Obj) (k : Nat) (h : k ≠ l) : (W.putObj l o).heap[k]? = W.heap[k]? := by
  show (W.heap.setIfInBounds l o)[k]? = _
  rw [Array.getElem?_setIfInBounds_ne (fun e => h e.symm)]
theorem KeepG.keeps {g B : Nat} (h : g + 4 ≤ B) : KeepsOf B (KeepG g) := ⟨fun h k => h.trans k, fun W l o o' hB _ _ _ i h1 h2 => (grownBy_putObj_at W l o' i (by omega))⟩
theorem run_eqItems_fn {P : Program} {w : World} {d : Nat} {e c : Nat} {xs ys : Array Value} (f g : Nat → Value) (q : Nat → Bool) : ∀ (is : List Nat), (∀ i ∈ is, (part e xs (i * c)).run P w = .ok (f i) w) → (∀ i ∈ is, (part e ys (i * c)).run P w = .ok (g i) w) →
    (∀ i ∈ is, (Op.equalIn d e (f i) (g i)).run P w = .ok (q i) w) → (Op.eqItems d e c xs ys is).run P w = .ok (is.all q) w
  | [], _, _, _ => by simp [Op.eqItems]
  | i :: is, h1, h2, h3 => by
    simp only [Op.eqItems, Sem.run_bind, h1 i List.mem_cons_self, h2 i List.mem_cons_self, h3 i List.mem_cons_self, Result.andThen_ok, List.all_cons]
    have ih := run_eqItems_fn f g q is (fun j hj => h1 j (List.mem_cons_of_mem _ hj)) (fun j hj => h2 j (List.mem_cons_of_mem _ hj)) (fun j hj => h3 j (List.mem_cons_of_mem _ hj))
    cases q i
    · simp
    · simpa using ih
theorem undrew {B : Nat} {w w1 : World} (h : Below B w.drew w1) : Below B w w1 := ⟨h.os, h.tape, h.output, h.size, h.block⟩
theorem MapFn.grown {n : Nat} {w w1 : World} {m : Nat} {f : List Int → Option Value} (h : MapFn n w m f) {row : Option Nat} (hg : w.grownBy w1 row) (hne : some m ≠ row) : MapFn n w1 m f := h.same (hg.block m h.lt hne)
theorem MapFn.set {n : Nat} {w : World} {m : Nat} {f : List Int → Option Value} (h : MapFn n w m f) (p : Addr) (u : Value) (hne : m ≠ p.block) : MapFn n (w.setCell p u) m f := h.same (Below.heap_setCell _ _ _ _ hne)
theorem at_nat {w : World} {A : Option Addr} {n : Nat} {l : List Int} (h : Kd.C (Kd.int .i64) w A n l) (k : Nat) (hk : k < n) : ∃ ad, A = some ad ∧ w.cell? (ad.add k) = some (.int .i64 (rd l k)) := by
  have := Kd.at_int h (k : Int) (by omega) (by omega)
  simpa using this
theorem encs_map {α : Type} (f : α → Value) (l : List α) : encs f l = l.map f := by
  apply List.ext_getElem?
  intro j
  simp [encs]
theorem cut_V {e : TypeId} {w : World} {base : Nat} {A : Option Addr} {n c : Nat} {xs : List Int} (h : w.ownsRow base e 1 (.slice A n c) xs.length (xs.map (Value.int .i64))) :
    Kd.V (Kd.int .i64) e w base (fun k => base ≤ k) (.slice A xs.length xs.length) xs := by
  have h1 : (Kd.int .i64).R e w base (fun k => base ≤ k) (.slice A n c) xs := Kd.R_of_own (by rw [encs_map]; exact h) (fun k hk => own_base h k hk)
  have h2 := Kd.V_at (Kd.R_V (base' := base) h1)
  exact Kd.V_mk (Nat.le_refl _) h2.2.2
theorem and1 (x : Int) (h0 : 0 ≤ x) (h1 : x < 256) : Go.bits .and .i64 x 1 = x % 2 :=
  bits_mask .i64 8 (by decide) (fun n h0 h1 => by rw [IntKind.wrap_i64]; omega) 1 (by decide) x h0 h1
theorem bit_at (s k : Nat) (hs : s < 256) : (Go.bits .and .i64 ((s : Int) / 2 ^ k) 1 == 1) = (s / 2 ^ k % 2 == 1) := by
  have e : (s : Int) / 2 ^ k = ((s / 2 ^ k : Nat) : Int) := by simp
  have hle : s / 2 ^ k ≤ s := Nat.div_le_self _ _
  rw [e]
  generalize s / 2 ^ k = q at hle ⊢
  rw [and1 _ (by omega) (by omega), Bool.eq_iff_iff]
  simp only [beq_iff_eq]
  omega
end Go.Proofs.YtekjlpldooihhaaDoorH
namespace Go.Proofs.YtekjlpldooihhaaDoorEv
set_option linter.unusedVariables false
set_option linter.unusedSimpArgs false
open Go.RowKit Go.Proofs.YtekjlpldooihhaaDoorW.PrintWords
def Evt {α : Type} (f : Nat → Option α) (v : α) : Prop := ∃ k0, ∀ k, k0 ≤ k → f k = some v
theorem Evt.pure {α : Type} (v : α) : Evt (fun _ => some v) v := ⟨0, fun _ _ => rfl⟩
theorem Evt.of_eq {α : Type} {f : Nat → Option α} {v v' : α} (h : Evt f v) (e : v = v') : Evt f v' := e ▸ h
theorem Evt.const {α : Type} {x : Option α} {v : α} (h : x = some v) : Evt (fun _ => x) v := ⟨0, fun _ _ => h⟩
theorem Evt.succ {α : Type} {f : Nat → Option α} {v : α} (h : Evt (fun k => f (k + 1)) v) : Evt f v := by
  obtain ⟨k0, hk⟩ := h
  exact ⟨k0 + 1, fun k h => by obtain ⟨j, rfl⟩ : ∃ j, k = j + 1 := ⟨k - 1, by omega⟩; exact hk j (by omega)⟩
theorem Evt.bind {α β : Type} {f : Nat → Option α} {g : Nat → α → Option β} {v : α} {r : β} (h : Evt f v) (hg : Evt (fun k => g k v) r) : Evt (fun k => (f k).bind (g k)) r := by
  obtain ⟨a, ha⟩ := h
  obtain ⟨b, hb⟩ := hg
  exact ⟨max a b, fun k h => by show (f k).bind (g k) = _; rw [ha k (by omega)]; exact hb k (by omega)⟩
theorem Evt.map {α β : Type} {f : Nat → Option α} {g : α → β} {v : α} (h : Evt f v) : Evt (fun k => (f k).map g) (g v) := by
  obtain ⟨a, ha⟩ := h
  exact ⟨a, fun k h => by show (f k).map g = _; rw [ha k h]; rfl⟩
theorem Evt.of_mono {α : Type} {f : Nat → Option α} {v : α} (hm : ∀ k, LeO (f k) (f (k + 1))) {k : Nat} (h : f k = some v) : Evt f v :=
  ⟨k, fun j hj => by
    induction j with
    | zero => rw [show k = 0 by omega] at h; exact h
    | succ j ih => by_cases e : k = j + 1
                   · rw [← e]; exact h
                   · exact hm j v (ih (by omega))⟩
theorem Evt.ite {α : Type} {c : Prop} [Decidable c] {f g : Nat → Option α} {v : α} (h1 : c → Evt f v) (h2 : ¬ c → Evt g v) : Evt (fun k => if c then f k else g k) v := by
  by_cases h : c
  · simp only [if_pos h]; exact h1 h
  · simp only [if_neg h]; exact h2 h
theorem Evt.pos {α : Type} {c : Prop} [Decidable c] {f g : Nat → Option α} {v : α} (h : c) (h1 : Evt f v) : Evt (fun k => if c then f k else g k) v := by simp only [if_pos h]; exact h1
theorem Evt.neg {α : Type} {c : Prop} [Decidable c] {f g : Nat → Option α} {v : α} (h : ¬ c) (h1 : Evt g v) : Evt (fun k => if c then f k else g k) v := by simp only [if_neg h]; exact h1
theorem Evt.get {α : Type} {f : Nat → Option α} {v : α} (h : Evt f v) : ∃ k, f k = some v := by
  obtain ⟨a, ha⟩ := h; exact ⟨a, ha a (Nat.le_refl _)⟩
theorem Evt.congr {α : Type} {f g : Nat → Option α} {v : α} (h : Evt f v) (e : ∀ k, g k = f k) : Evt g v := by
  rwa [show g = f from funext e]
end Go.Proofs.YtekjlpldooihhaaDoorEv
namespace Go.Proofs.YtekjlpldooihhaaDoorP
open Go.Proofs.YtekjlpldooihhaaDoorSh
open Go.RowKit Go.Proofs.YtekjlpldooihhaaDoorW.PrintWords Go.Proofs.YtekjlpldooihhaaDoorW.PrintLast Go.Proofs.YtekjlpldooihhaaDoorW.PrintMore Go.Proofs.YtekjlpldooihhaaDoorH Go.Proofs.YtekjlpldooihhaaDoorEv Go.Proofs.YtekjlpldooihhaaDoor.PA
set_option linter.unusedVariables false
set_option linter.unusedSimpArgs false
theorem new1 (w : World) (a : Obj) : (w.alloc a).heap[w.heap.size]? = some a ∧ Below w.heap.size w (w.alloc a) ∧ (w.alloc a).heap.size = w.heap.size + 1 := ⟨blk_new w a, below_alloc (Below.refl w.heap.size w) a, by simp⟩
theorem new2 (w : World) (a b : Obj) : ((w.alloc a).alloc b).heap[w.heap.size]? = some a ∧ ((w.alloc a).alloc b).heap[w.heap.size + 1]? = some b ∧ Below w.heap.size w ((w.alloc a).alloc b) ∧ ((w.alloc a).alloc b).heap.size = w.heap.size + 1 + 1 := by
  refine ⟨?_, ?_, below_alloc (below_alloc (Below.refl w.heap.size w) a) b, by simp⟩
  · exact (Below.heap_alloc _ _ _ (by simp)).trans (World.alloc_heap_new w a)
  · have := World.alloc_heap_new (w.alloc a) b; rwa [World.size_alloc] at this
theorem new3 (w : World) (a b c : Obj) : (((w.alloc a).alloc b).alloc c).heap[w.heap.size]? = some a ∧ (((w.alloc a).alloc b).alloc c).heap[w.heap.size + 1]? = some b ∧ (((w.alloc a).alloc b).alloc c).heap[w.heap.size + 1 + 1]? = some c ∧ Below w.heap.size w (((w.alloc a).alloc b).alloc c) ∧ (((w.alloc a).alloc b).alloc c).heap.size = w.heap.size + 1 + 1 + 1 := by
  obtain ⟨h1, h2, h3, h4⟩ := new2 w a b
  refine ⟨(Below.heap_alloc _ _ _ (by omega)).trans h1, (Below.heap_alloc _ _ _ (by omega)).trans h2, ?_, below_alloc h3 c, by simp⟩
  have := World.alloc_heap_new ((w.alloc a).alloc b) c; rwa [h4] at this
theorem below_far {w w1 : World} {g : Nat} {o : Obj} (h : w.heap[g]? = some o) (hb : Below w.heap.size w w1) : w1.heap[g]? = some o := (hb.block g (Array.getElem?_eq_some_iff.1 h).1).trans h
def rowI (f : Nat → Bool) : Array Value := ((List.range 16).map fun i => Value.bool (f i)).toArray
theorem rowI_size (f : Nat → Bool) : (rowI f).size = 16 := by simp [rowI]
theorem rowI_get (f : Nat → Bool) (k : Nat) (h : k < 16) : (rowI f)[k]? = some (.bool (f k)) := by
  unfold rowI
  rw [List.getElem?_toArray, List.getElem?_map, List.getElem?_range h]; rfl
def zeroI : Array Value := #[Value.bool false, Value.bool false, Value.bool false, Value.bool false, Value.bool false, Value.bool false, Value.bool false, Value.bool false, Value.bool false, Value.bool false, Value.bool false, Value.bool false, Value.bool false, Value.bool false, Value.bool false, Value.bool false]
theorem rowI_zero : #[Value.bool false, Value.bool false, Value.bool false, Value.bool false, Value.bool false, Value.bool false, Value.bool false, Value.bool false, Value.bool false, Value.bool false, Value.bool false, Value.bool false, Value.bool false, Value.bool false, Value.bool false, Value.bool false] = rowI fun _ => false := rfl
theorem rowI_one (f : Nat → Bool) : (rowI f).all (·.oneCell') = true := by simp [rowI, Value.oneCell']
theorem rowI_set (f : Nat → Bool) (k : Nat) (h : k < 16) (b : Bool) : (rowI f).setIfInBounds k (.bool b) = rowI (fun j => if j = k then b else f j) := by
  apply Array.ext_getElem?
  intro i
  rw [Array.getElem?_setIfInBounds, rowI_size]
  by_cases hi : i < 16
  · rw [rowI_get _ _ hi]
    by_cases e : k = i
    · subst e; rw [rowI_get _ _ h]; simp [h]
    · rw [if_neg e, rowI_get _ _ hi, if_neg (fun h => e h.symm)]
  · rw [Array.getElem?_eq_none (by rw [rowI_size]; omega)]
    rw [if_neg (by omega), Array.getElem?_eq_none (by rw [rowI_size]; omega)]
theorem rowI_congr {f g : Nat → Bool} (h : ∀ k, k < 16 → f k = g k) : rowI f = rowI g := by
  apply Array.ext_getElem?
  intro i
  by_cases hi : i < 16
  · rw [rowI_get _ _ hi, rowI_get _ _ hi, h i hi]
  · rw [Array.getElem?_eq_none (by rw [rowI_size]; omega), Array.getElem?_eq_none (by rw [rowI_size]; omega)]
theorem rowI_cell {w : World} {g t : Nat} {f : Nat → Bool} (h : w.heap[g]? = some (.cells (rowI f) t (0, 0))) (k : Nat) (hk : k < 16) : w.cell? ⟨g, k, none⟩ = some (.bool (f k)) := (blk_cell h k).trans (rowI_get f k hk)
theorem rowI_C {w : World} {g t : Nat} {f : Nat → Bool} (h : w.heap[g]? = some (.cells (rowI f) t (0, 0))) (lo n : Nat) (hn : lo + n ≤ 16) : Kd.C Kd.bool w (some ⟨g, lo, none⟩) ((List.range' lo n).map f).length ((List.range' lo n).map f) := by
  refine ⟨rfl, by simp [maxLen]; omega, fun _ => ⟨_, rfl, fun j x hx => ?_⟩⟩
  have hj : j < n := by have := (List.getElem?_eq_some_iff.1 hx).1; simpa using this
  have hx2 : x = f (lo + j) := by
    rw [List.getElem?_map, List.getElem?_range' hj] at hx
    simpa using hx.symm
  subst hx2
  refine ⟨[.bool (f (lo + j))], rfl, rfl, fun i u hi => ?_⟩
  have hi0 : i = 0 := by have := (List.getElem?_eq_some_iff.1 hi).1; simpa using this
  subst hi0
  obtain rfl : Value.bool (f (lo + j)) = u := by simpa using hi
  rw [show Kd.bool.sz = 1 from rfl, show (⟨g, lo, none⟩ : Addr).add (j * 1 + 0) = ⟨g, lo + j, none⟩ from by unfold Addr.add; split <;> simp_all]
  exact rowI_cell h (lo + j) (by omega)
theorem calls_none (w : World) :
    Calls Tryd.prog 105 #[] w fun e w' => e = .returned (.agg (rowI (fun _ => false))) ∧ Below w.heap.size w w' := by
  rw [← rowI_zero]
  go_enter Tryd.func105, Tryd.ntmps105
  have hX := blk_alloc (blk_new w (.cells #[Value.bool false, Value.bool false, Value.bool false, Value.bool false, Value.bool false, Value.bool false, Value.bool false, Value.bool false, Value.bool false, Value.bool false, Value.bool false, Value.bool false, Value.bool false, Value.bool false, Value.bool false, Value.bool false] 131)) (.cells #[Value.bool false, Value.bool false, Value.bool false, Value.bool false, Value.bool false, Value.bool false, Value.bool false, Value.bool false, Value.bool false, Value.bool false, Value.bool false, Value.bool false, Value.bool false, Value.bool false, Value.bool false, Value.bool false] 131)
  have hY := blk_new (w.alloc (.cells #[Value.bool false, Value.bool false, Value.bool false, Value.bool false, Value.bool false, Value.bool false, Value.bool false, Value.bool false, Value.bool false, Value.bool false, Value.bool false, Value.bool false, Value.bool false, Value.bool false, Value.bool false, Value.bool false] 131)) (.cells #[Value.bool false, Value.bool false, Value.bool false, Value.bool false, Value.bool false, Value.bool false, Value.bool false, Value.bool false, Value.bool false, Value.bool false, Value.bool false, Value.bool false, Value.bool false, Value.bool false, Value.bool false, Value.bool false] 131)
  rw [World.size_alloc] at hY
  have HX := Lib.hid hX; have HY := Lib.hid hY
  clear hX hY
  go_wp2_with (first | ((with_reducible refine gate_dst (N := 2) rfl ?_); refine wpList_load_row rfl 131 _ rfl (w.heap.size + 1) rfl 131 _ _ _ HY.out Tryd.underlying131 rfl (by kernel_rfl) ?_) | ((with_reducible refine gate_store (t := 131) (p := 0) rfl ?_); refine wpList_store_row rfl 131 _ _ rfl w.heap.size _ rfl rfl 131 _ HX.out (by kernel_rfl) rfl (by simp [Value.oneCell']) ?_))
  have HX2 := setRow_heap ((w.alloc (.cells #[Value.bool false, Value.bool false, Value.bool false, Value.bool false, Value.bool false, Value.bool false, Value.bool false, Value.bool false, Value.bool false, Value.bool false, Value.bool false, Value.bool false, Value.bool false, Value.bool false, Value.bool false, Value.bool false] 131)).alloc (.cells #[Value.bool false, Value.bool false, Value.bool false, Value.bool false, Value.bool false, Value.bool false, Value.bool false, Value.bool false, Value.bool false, Value.bool false, Value.bool false, Value.bool false, Value.bool false, Value.bool false, Value.bool false, Value.bool false] 131)) w.heap.size _ #[Value.bool false, Value.bool false, Value.bool false, Value.bool false, Value.bool false, Value.bool false, Value.bool false, Value.bool false, Value.bool false, Value.bool false, Value.bool false, Value.bool false, Value.bool false, Value.bool false, Value.bool false, Value.bool false] 131 _ HX.out
  exact bodyPost_ret (results_cell_row rfl _ _ w.heap.size 131 _ _ _ rfl HX2 Tryd.underlying131 rfl (by kernel_rfl)) rfl ⟨rfl, below_setRow (below_alloc (below_alloc (Below.refl w.heap.size w) _) _) (Nat.le_refl _) _⟩
theorem w64 (j : Nat) (h : j < 9223372036854775807) : wrap64 ((j : Int) + 1) = ((j + 1 : Nat) : Int) := by unfold wrap64; omega
theorem IndexB_l0 (l : List Bool) (a : Bool) (hl : l.length < 9223372036854775808) : ∀ (d j : Nat), j + d = l.length →
    ∃ r, Evt (fun k => slices_Index_bool_bool.l0 k l a (l.length : Int) (j : Int)) r ∧ (decide (r ≥ 0) = (l.drop j).contains a)
  | 0, j, hj => by
    refine ⟨-1, Evt.succ ?_, ?_⟩
    · simp only [slices_Index_bool_bool.l0]
      exact Evt.neg (by omega) (Evt.pure _)
    · rw [List.drop_eq_nil_of_le (by omega)]; rfl
  | d + 1, j, hj => by
    have h1 : l.drop j = l[j] :: l.drop (j + 1) := List.drop_eq_getElem_cons (by omega)
    have hg : rdOf false l (j : Int) = l[j] := by simp [rdOf, show j < l.length by omega]
    by_cases h : a = l[j]
    · refine ⟨j, Evt.succ ?_, ?_⟩
      · simp only [slices_Index_bool_bool.l0]
        refine Evt.pos (by omega) (Evt.pos (by omega) (Evt.pos (by omega) ?_))
        rw [hg]; exact Evt.pos (by simpa using h) (Evt.pure _)
      · rw [h]; rw [h1]; rw [List.contains_cons, beq_self_eq_true, Bool.true_or]; exact decide_eq_true (by omega)
    · obtain ⟨r, h2, h3⟩ := IndexB_l0 l a hl d (j + 1) (by omega)
      refine ⟨r, Evt.succ ?_, ?_⟩
      · simp only [slices_Index_bool_bool.l0]
        refine Evt.pos (by omega) (Evt.pos (by omega) (Evt.pos (by omega) ?_))
        rw [w64 j (by omega)]
        rw [hg]
        exact Evt.neg (by simpa using h) h2
      · rw [h1, h3, List.contains_cons]
        have : (a == l[j]) = false := by simpa using h
        rw [this, Bool.false_or]
theorem calls_ContainsB (A : Option Addr) (c : Nat) (l : List Bool) (a : Bool) (w : World) (hr : Kd.C Kd.bool w A l.length l) (hc : l.length ≤ c) :
    Calls Tryd.prog 104 #[.slice A l.length c, .bool a] w fun e w' => e = .returned (.bool (l.contains a)) ∧ Below w.heap.size w w' := by
  have hl : l.length < 9223372036854775808 := by have := hr.2.1; omega
  obtain ⟨r, h1, h2⟩ := IndexB_l0 l a hl l.length 0 (by omega)
  obtain ⟨k, hk⟩ := h1.get
  refine (slices_Contains_bool_bool.calls k A c l a (l.contains a) w hr hc ?_).mono fun e w' h => ⟨h.1, h.2.below⟩
  unfold slices_Contains_bool_bool.f slices_Index_bool_bool.f
  rw [show slices_Index_bool_bool.l0 k l a (l.length : Int) 0 = some r from hk]
  simp only [Option.bind_some]
  rw [h2]
  rfl
set_option maxRecDepth 100000 in
theorem slice_at (g lo hi : Nat) (h1 : lo ≤ hi) (h2 : hi ≤ 16) (h3 : lo < 16) (W : World) : (Instr.sliceAt 131 (.pointer (some ⟨g, 0, none⟩)) (some (.int .i64 (lo : Int))) (some (.int .i64 (hi : Int))) none).run Tryd.prog W = .ok (.slice (some ⟨g, lo, none⟩) (hi - lo) (16 - lo)) W := by
  have hu : Tryd.prog.underlying 131 = some (.array (Tryd.prog.arrayLen 131) (Tryd.prog.elem 131)) := by kernel_rfl
  have hl : Tryd.prog.arrayLen 131 = 16 := by kernel_rfl
  have he : Tryd.prog.elem 131 = 4 := by kernel_rfl
  obtain ⟨i0, hi0⟩ : ∃ i, Tryd.prog.info? 4 = some i := ⟨_, rfl⟩
  have hs : (sizeOf 4).run Tryd.prog W = .ok 1 W := by rw [run_sizeOf W hi0, show Tryd.prog.cellsOf 4 = 1 from by kernel_rfl]
  rw [run_sliceAt_array_lh W 131 ⟨g, 0, none⟩ hu .i64 .i64 (lo : Int) (hi : Int) (by omega) (by omega) (by rw [hl]; omega), he, hs, hl]
  simp only [Result.andThen_ok, slicedAt, Int.toNat_natCast, Nat.mul_one]
  rw [if_neg (by omega)]
  have : (⟨g, 0, none⟩ : Addr).add lo = ⟨g, lo, none⟩ := by unfold Addr.add; split <;> simp_all
  rw [this]
def kin (lo hi : Nat) : List Nat := List.range' lo (hi + 1 - lo)
def kcanB (lo hi : Nat) (f : Nat → Bool) : Bool := (kin lo hi).any f
def kmustB (lo hi : Nat) (f : Nat → Bool) : Bool := (kin lo hi).all f
theorem map_contains_true (l : List Nat) (f : Nat → Bool) : (l.map f).contains true = l.any f := by
  induction l with
  | nil => rfl
  | cons a l ih => rw [List.map_cons, List.contains_cons, ih, List.any_cons]; cases f a <;> simp
theorem map_contains_false (l : List Nat) (f : Nat → Bool) : (!(l.map f).contains false) = l.all f := by
  induction l with
  | nil => rfl
  | cons a l ih => rw [List.map_cons, List.contains_cons, Bool.not_or, ih, List.all_cons]; cases f a <;> simp
set_option maxRecDepth 100000 in
theorem calls_kcan (lo hi : Nat) (f : Nat → Bool) (h1 : lo ≤ hi) (h2 : hi < 16) (w : World) :
    Calls Tryd.prog 131 #[.agg #[.int .i64 lo, .int .i64 hi], .agg (rowI f)] w fun e w' => e = .returned (.bool (kcanB lo hi f)) ∧ Below w.heap.size w w' := by
  have hX := blk_new (w.alloc (.cells #[.int .i64 lo, .int .i64 hi] 136)) (.cells (rowI f) 131)
  rw [World.size_alloc] at hX
  have hC := rowI_C hX lo (hi + 1 - lo) (by omega)
  have hl : ((List.range' lo (hi + 1 - lo)).map f).length = hi + 1 - lo := by simp
  have hct : ((List.range' lo (hi + 1 - lo)).map f).contains true = kcanB lo hi f := map_contains_true (kin lo hi) f
  have hsl : ∀ W, (Instr.sliceAt 131 (.pointer (some ⟨w.heap.size + 1, 0, none⟩)) (some (.int .i64 (lo : Int))) (some (.int .i64 ((hi : Int) + 1))) none).run Tryd.prog W = .ok (.slice (some ⟨w.heap.size + 1, lo, none⟩) (hi + 1 - lo) (16 - lo)) W := fun W => slice_at (w.heap.size + 1) lo (hi + 1) (by omega) (by omega) (by omega) W
  have hB := below_alloc (below_alloc (Below.refl w.heap.size w) (.cells #[.int .i64 lo, .int .i64 hi] 136)) (.cells (rowI f) 131)
  generalize (List.range' lo (hi + 1 - lo)).map f = xs at hC hl hct
  rw [← hl] at hsl
  have HC := Lib.hid hC; have HCT := Lib.hid hct; have HB := Lib.hid hB; have HL := Lib.hid hl
  clear hC hct hB hX hl
  go_enter Tryd.func131, Tryd.ntmps131
  go_wp2_with (go_at_call 104; refine (calls_ContainsB (some ⟨w.heap.size + 1, lo, none⟩) (16 - lo) xs true _ HC.out (by have := HL.out; omega)).mono ?_; rintro e w1 ⟨he, hb⟩; rw [HCT.out] at he; subst he)
  go_ret
  exact ⟨rfl, HB.out.trans (hb.mono (by simp; omega))⟩
set_option maxRecDepth 100000 in
theorem calls_kmust (lo hi : Nat) (f : Nat → Bool) (h1 : lo ≤ hi) (h2 : hi < 16) (w : World) :
    Calls Tryd.prog 133 #[.agg #[.int .i64 lo, .int .i64 hi], .agg (rowI f)] w fun e w' => e = .returned (.bool (kmustB lo hi f)) ∧ Below w.heap.size w w' := by
  have hX := blk_new (w.alloc (.cells #[.int .i64 lo, .int .i64 hi] 136)) (.cells (rowI f) 131)
  rw [World.size_alloc] at hX
  have hC := rowI_C hX lo (hi + 1 - lo) (by omega)
  have hl : ((List.range' lo (hi + 1 - lo)).map f).length = hi + 1 - lo := by simp
  have hct : ((List.range' lo (hi + 1 - lo)).map f).contains false = !kmustB lo hi f := by have h := map_contains_false (kin lo hi) f; unfold kmustB; rw [← h, Bool.not_not]; rfl
  have hsl : ∀ W, (Instr.sliceAt 131 (.pointer (some ⟨w.heap.size + 1, 0, none⟩)) (some (.int .i64 (lo : Int))) (some (.int .i64 ((hi : Int) + 1))) none).run Tryd.prog W = .ok (.slice (some ⟨w.heap.size + 1, lo, none⟩) (hi + 1 - lo) (16 - lo)) W := fun W => slice_at (w.heap.size + 1) lo (hi + 1) (by omega) (by omega) (by omega) W
  have hB := below_alloc (below_alloc (Below.refl w.heap.size w) (.cells #[.int .i64 lo, .int .i64 hi] 136)) (.cells (rowI f) 131)
  generalize (List.range' lo (hi + 1 - lo)).map f = xs at hC hl hct
  rw [← hl] at hsl
  have HC := Lib.hid hC; have HCT := Lib.hid hct; have HB := Lib.hid hB; have HL := Lib.hid hl
  clear hC hct hB hX hl
  go_enter Tryd.func133, Tryd.ntmps133
  go_wp2_with (go_at_call 104; refine (calls_ContainsB (some ⟨w.heap.size + 1, lo, none⟩) (16 - lo) xs false _ HC.out (by have := HL.out; omega)).mono ?_; rintro e w1 ⟨he, hb⟩; rw [HCT.out] at he; subst he)
  go_ret
  exact ⟨by simp, HB.out.trans (hb.mono (by simp; omega))⟩
def jAt (x : S50) (a : Nat) (turned : Bool) (n : Int) : Nat := ((a : Int) + (if turned then x.f0 - 1 - n else n)).toNat
def jsetK (x : S50) (a : Nat) (turned : Bool) (js : List Int) (i : Nat) : Bool := js.any fun n => decide (jAt x a turned n = i)
def jset (x : S50) (a : Nat) (turned : Bool) : Nat → Bool := jsetK x a turned x.f1
theorem jsetK_app (x : S50) (a : Nat) (turned : Bool) (js : List Int) (n : Int) (i : Nat) : jsetK x a turned (js ++ [n]) i = if i = jAt x a turned n then true else jsetK x a turned js i := by
  unfold jsetK
  rw [List.any_append]
  by_cases e : i = jAt x a turned n
  · subst e; simp
  · have : ¬ jAt x a turned n = i := fun h => e h.symm
    simp [e, this]
structure Fits (x : S50) (a : Nat) : Prop where
  one : 1 ≤ x.f0
  room : (a : Int) + x.f0 ≤ 16
  few : x.f1.length ≤ 3
  joints : ∀ n ∈ x.f1, 0 ≤ n ∧ n < x.f0
theorem Fits.at {x : S50} {a : Nat} (h : Fits x a) (turned : Bool) {n : Int} (hn : n ∈ x.f1) : jAt x a turned n < 16 := by
  have h1 := h.joints n hn
  have h2 := h.room
  unfold jAt
  split <;> omega
def bookV (PA : Option Addr) (pn pc : Nat) (QA : Option Addr) (qn qc m : Nat) : Array Value := #[.slice PA pn pc, .slice QA qn qc, .map (some m)]
theorem at_shape {w : World} {A : Option Addr} {n : Nat} {xs : List S50} (h : Kd.C k50 w A n xs) (i : Nat) (h1 : i < n) : ∃ ad A1 c1, A = some ad ∧ w.cell? (ad.add (i * 3)) = some (.int .i64 (xs.getD i z50).f0) ∧ w.cell? ⟨(ad.add (i * 3)).block, (ad.add (i * 3)).off + 1, none⟩ = some (.slice A1 (xs.getD i z50).f1.length c1) ∧ w.cell? ⟨(ad.add (i * 3)).block, (ad.add (i * 3)).off + 2, none⟩ = some (.bool (xs.getD i z50).f2) ∧ (xs.getD i z50).f1.length ≤ c1 ∧ (Kd.int .i64).C w A1 (xs.getD i z50).f1.length (xs.getD i z50).f1 := by
  have := at_T50 h (i : Int) (by omega) (by omega)
  simpa [rd_T50] using this
theorem at_wood {w : World} {A : Option Addr} {n : Nat} {xs : List S48} (h : Kd.C k48 w A n xs) (i : Nat) (h1 : i < n) : ∃ ad A1 c1, A = some ad ∧ w.cell? (ad.add (i * 2)) = some (.int .i64 (xs.getD i z48).f0) ∧ w.cell? ⟨(ad.add (i * 2)).block, (ad.add (i * 2)).off + 1, none⟩ = some (.slice A1 (xs.getD i z48).f1.length c1) ∧ (xs.getD i z48).f1.length ≤ c1 ∧ k60.C w A1 (xs.getD i z48).f1.length (xs.getD i z48).f1 := by
  have := at_T48 h (i : Int) (by omega) (by omega)
  simpa [rd_T48] using this
theorem at_span {w : World} {A : Option Addr} {n : Nat} {xs : List S60} (h : Kd.C k60 w A n xs) (i : Nat) (h1 : i < n) : ∃ ad, A = some ad ∧ w.cell? (ad.add (i * 2)) = some (.int .i64 (xs.getD i z60).f0) ∧ w.cell? ⟨(ad.add (i * 2)).block, (ad.add (i * 2)).off + 1, none⟩ = some (.int .i64 (xs.getD i z60).f1) := by
  have := at_T60 h (i : Int) (by omega) (by omega)
  simpa [rd_T60] using this
set_option maxRecDepth 100000 in
set_option maxHeartbeats 1000000 in
theorem calls_joints (PA : Option Addr) (pn pc : Nat) (QA : Option Addr) (qc m : Nat) (Q : List S50) (i p a : Nat) (turned : Bool) (hp : p < Q.length) (hx : Fits (Q.getD p z50) a) (w : World) (hQ : Kd.C k50 w QA Q.length Q) :
    Calls Tryd.prog 111 #[.agg (bookV PA pn pc QA Q.length qc m), .agg #[.int .i64 i, .int .i64 p, .int .i64 a], .bool turned] w fun e w' =>
      e = .returned (.agg (rowI (jset (Q.getD p z50) a turned))) ∧ Below w.heap.size w w' := by
  obtain ⟨ad, A1, c1, rfl, e0, e1, e2, hl1, hC1⟩ := at_shape hQ p hp
  obtain ⟨x, hxe⟩ : ∃ x, Q.getD p z50 = x := ⟨_, rfl⟩
  rw [hxe] at e0 e1 e2 hl1 hC1 hx ⊢
  have HFX := Lib.hid hx; have HC1 := Lib.hid hC1
  clear hxe hQ hx hC1
  have h3 := new3 w (.cells #[.slice PA pn pc, .slice (some ad) Q.length qc, .map (some m)] 84) (.cells #[.int .i64 i, .int .i64 p, .int .i64 a] 87) (.cells #[Value.bool false, Value.bool false, Value.bool false, Value.bool false, Value.bool false, Value.bool false, Value.bool false, Value.bool false, Value.bool false, Value.bool false, Value.bool false, Value.bool false, Value.bool false, Value.bool false, Value.bool false, Value.bool false] 131)
  go_enter Tryd.func111, Tryd.ntmps111
  unfold bookV
  go_wp2_with (first | (go_at_call 105; refine (calls_none _).mono ?_; rintro e w1 ⟨rfl, hb1⟩; obtain ⟨n0, n1, n2, n3, n4⟩ := h3; have hs1 := hb1.size; rw [n4] at hs1; have HX := Lib.hid (below_far n0 hb1); have HY := Lib.hid (below_far n1 hb1); have HZ := Lib.hid (below_far n2 hb1); have HB := Lib.hid (n3.trans (hb1.mono (by rw [n4]; omega))); clear n0 n1 n2 n3 n4 hb1; have HN := Lib.hid (blk_new w1 (.cells #[Value.bool false, Value.bool false, Value.bool false, Value.bool false, Value.bool false, Value.bool false, Value.bool false, Value.bool false, Value.bool false, Value.bool false, Value.bool false, Value.bool false, Value.bool false, Value.bool false, Value.bool false, Value.bool false] 131))) | ((with_reducible refine gate_store (t := 131) (p := 7) rfl ?_); refine wpList_store_row rfl 131 _ _ rfl w1.heap.size _ rfl rfl 131 _ HN.out (by kernel_rfl) rfl (rowI_one _) ?_; have HN2 := Lib.hid (setRow_heap _ w1.heap.size _ (rowI fun _ => false) 131 _ HN.out); have HX2 := Lib.hid ((setRow_other (w1.alloc (.cells #[Value.bool false, Value.bool false, Value.bool false, Value.bool false, Value.bool false, Value.bool false, Value.bool false, Value.bool false, Value.bool false, Value.bool false, Value.bool false, Value.bool false, Value.bool false, Value.bool false, Value.bool false, Value.bool false] 131)) w1.heap.size w.heap.size (rowI fun _ => false) (by omega)).trans (blk_alloc HX.out _)); have HY2 := Lib.hid ((setRow_other (w1.alloc (.cells #[Value.bool false, Value.bool false, Value.bool false, Value.bool false, Value.bool false, Value.bool false, Value.bool false, Value.bool false, Value.bool false, Value.bool false, Value.bool false, Value.bool false, Value.bool false, Value.bool false, Value.bool false, Value.bool false] 131)) w1.heap.size (w.heap.size + 1) (rowI fun _ => false) (by omega)).trans (blk_alloc HY.out _)); have HZ2 := Lib.hid ((setRow_other (w1.alloc (.cells #[Value.bool false, Value.bool false, Value.bool false, Value.bool false, Value.bool false, Value.bool false, Value.bool false, Value.bool false, Value.bool false, Value.bool false, Value.bool false, Value.bool false, Value.bool false, Value.bool false, Value.bool false, Value.bool false] 131)) w1.heap.size (w.heap.size + 1 + 1) (rowI fun _ => false) (by omega)).trans (blk_alloc HZ.out _)); have HB2 := Lib.hid (below_setRow (g := w1.heap.size) (HB.out.alloc (by omega) (.cells #[Value.bool false, Value.bool false, Value.bool false, Value.bool false, Value.bool false, Value.bool false, Value.bool false, Value.bool false, Value.bool false, Value.bool false, Value.bool false, Value.bool false, Value.bool false, Value.bool false, Value.bool false, Value.bool false] 131)) (by omega) (rowI fun _ => false)); have hs2 : ((w1.alloc (.cells #[Value.bool false, Value.bool false, Value.bool false, Value.bool false, Value.bool false, Value.bool false, Value.bool false, Value.bool false, Value.bool false, Value.bool false, Value.bool false, Value.bool false, Value.bool false, Value.bool false, Value.bool false, Value.bool false] 131)).setRow w1.heap.size (rowI fun _ => false)).heap.size = w1.heap.size + 1 := (by rw [setRow_size, World.size_alloc]); clear HX HY HZ HB; generalize (w1.alloc (.cells #[Value.bool false, Value.bool false, Value.bool false, Value.bool false, Value.bool false, Value.bool false, Value.bool false, Value.bool false, Value.bool false, Value.bool false, Value.bool false, Value.bool false, Value.bool false, Value.bool false, Value.bool false, Value.bool false] 131)).setRow w1.heap.size (rowI fun _ => false) = W at HN2 HX2 HY2 HZ2 HB2 hs2 ⊢; have d0 : W.cell? ⟨w.heap.size, 1, none⟩ = some (.slice (some ad) Q.length qc) := blk_cell HX2.out 1; have d1 : W.cell? ⟨w.heap.size + 1, 1, none⟩ = some (.int .i64 p) := blk_cell HY2.out 1; have f0 := pw_cell_below HB2.out e0; have f1 := pw_cell_below HB2.out e1; have f2 := pw_cell_below HB2.out e2))
  obtain ⟨n0, n1, n2⟩ := new1 W (.cells #[.int .i64 x.f0, .slice A1 x.f1.length c1, .bool x.f2] 50)
  have HN := Lib.hid (below_far HN2.out n1); have HY := Lib.hid (below_far HY2.out n1); have HZ := Lib.hid (below_far HZ2.out n1); have HB := Lib.hid (HB2.out.trans (n1.mono (below_size HB2.out)))
  rw [hs2] at n0; have HS := Lib.hid n0
  have hWs : w.heap.size + 1 + 1 < w1.heap.size := by omega
  clear HN2 HX2 HY2 HZ2 HB2 hs2 n0 n1 n2 d0 d1 f0 f1 f2 e0 e1 e2
  generalize W.alloc (.cells #[.int .i64 x.f0, .slice A1 x.f1.length c1, .bool x.f2] 50) = W0 at HN HY HZ HB HS ⊢
  go_loopw [22] (fun v wr => ∃ k : Nat, k ≤ x.f1.length ∧ v = .int .i64 k ∧ Hid (wr.heap[w1.heap.size]? = some (.cells (rowI (jsetK x a turned (x.f1.take k))) 131 (0, 0))) ∧ Hid (wr.heap[w1.heap.size + 1]? = some (.cells #[.int .i64 x.f0, .slice A1 x.f1.length c1, .bool x.f2] 50 (0, 0))) ∧ Hid (wr.heap[w.heap.size + 1]? = some (.cells #[.int .i64 i, .int .i64 p, .int .i64 a] 87 (0, 0))) ∧ Hid (wr.heap[w.heap.size + 1 + 1]? = some (.cells #[Value.bool false, Value.bool false, Value.bool false, Value.bool false, Value.bool false, Value.bool false, Value.bool false, Value.bool false, Value.bool false, Value.bool false, Value.bool false, Value.bool false, Value.bool false, Value.bool false, Value.bool false, Value.bool false] 131 (0, 0))) ∧ Hid (Below w.heap.size w wr)) (fun v _ => x.f1.length - (intOf v).toNat)
  case atStart => exact ⟨0, Nat.zero_le _, rfl, HN, HS, HY, HZ, HB⟩
  case round =>
    clear HN HY HZ HB HS
    obtain ⟨k, hk, rfl, HN, HS, HY, HZ, HB⟩ := hrel
    by_cases hlt : k < x.f1.length
    · obtain ⟨ad1, rfl, hcell⟩ := at_nat (Kd.C_below HC1.out HB.out) k hlt
      have hmem : rd x.f1 k ∈ x.f1 := by have : rd x.f1 k = x.f1[k] := by simp [rd, hlt]
                                         rw [this]; exact List.getElem_mem _
      have hq16 := HFX.out.at turned hmem
      obtain ⟨hj1, hj2⟩ := HFX.out.joints _ hmem
      have hroom := HFX.out.room
      have hfew := HFX.out.few
      have htk : x.f1.take (k + 1) = x.f1.take k ++ [rd x.f1 k] := by rw [List.take_add_one, show x.f1[k]? = some (rd x.f1 k) from by simp [rd, hlt]]; rfl
      obtain ⟨q, hq⟩ : ∃ q, jAt x a turned (rd x.f1 k) = q := ⟨_, rfl⟩
      have HNX := Lib.hid (show rowI (jsetK x a turned (x.f1.take (k + 1))) = (rowI (jsetK x a turned (x.f1.take k))).setIfInBounds q (.bool true) from by
        rw [rowI_set _ _ (by omega)]
        refine rowI_congr fun i hi => ?_
        rw [htk, jsetK_app, hq])
      obtain ⟨n, hn⟩ : ∃ n, rd x.f1 k = n := ⟨_, rfl⟩
      obtain ⟨L, hL⟩ : ∃ L, x.f0 = L := ⟨_, rfl⟩
      have hq2 : (a : Int) + (if turned then x.f0 - 1 - n else n) = (q : Int) := by
        rw [← hq, ← hn]; unfold jAt; split <;> omega
      have s0 : wr.cell? ⟨w1.heap.size + 1, 0, none⟩ = some (.int .i64 x.f0) := blk_cell HS.out 0
      have s1 : wr.cell? ⟨w.heap.size + 1, 2, none⟩ = some (.int .i64 a) := blk_cell HY.out 2
      have s2 : wr.cell? ⟨w1.heap.size, q, none⟩ = some (.bool (jsetK x a turned (x.f1.take k) q)) := rowI_cell HN.out q (by omega)
      have s3 := blk_frozen HN.out q
      rw [hn] at hcell hj1 hj2
      rw [hL] at hj2 hroom hq2 s0
      have hq3 : (q : Int) < 16 := by omega
      have hL1 := HFX.out.one
      rw [hL] at hL1
      have HQ := Lib.hid hq; have HHN := Lib.hid hn; have HHL := Lib.hid hL; have HTK := Lib.hid htk
      clear hq hn hL htk hmem
      cases turned with
      | true =>
        simp only [if_true] at hq2
        go_wp2_with fail
        go_roundw
        case rel =>
          refine ⟨k + 1, by omega, by go_num, ?_, blk_far HS.out (by show w1.heap.size + 1 ≠ w1.heap.size; omega) _, blk_far HY.out (by show w.heap.size + 1 ≠ w1.heap.size; omega) _, blk_far HZ.out (by show w.heap.size + 1 + 1 ≠ w1.heap.size; omega) _, HB.out.setCell (by show w.heap.size ≤ w1.heap.size; omega) _⟩
          rw [HNX.out]
          exact blk_set HN.out q (.bool true)
        case measure => simp [intOf]; omega
      | false =>
        simp only [Bool.false_eq_true, if_false] at hq2
        go_wp2_with fail
        go_roundw
        case rel =>
          refine ⟨k + 1, by omega, by go_num, ?_, blk_far HS.out (by show w1.heap.size + 1 ≠ w1.heap.size; omega) _, blk_far HY.out (by show w.heap.size + 1 ≠ w1.heap.size; omega) _, blk_far HZ.out (by show w.heap.size + 1 + 1 ≠ w1.heap.size; omega) _, HB.out.setCell (by show w.heap.size ≤ w1.heap.size; omega) _⟩
          rw [HNX.out]
          exact blk_set HN.out q (.bool true)
        case measure => simp [intOf]; omega
    · obtain rfl : k = x.f1.length := by omega
      have hNl := HN.out
      rw [List.take_length] at hNl
      have HNl := Lib.hid hNl; clear hNl HN
      go_wp2_with (first | ((with_reducible refine gate_dst (N := 38) rfl ?_); refine wpList_load_row rfl 131 _ rfl w1.heap.size rfl 131 _ _ _ HNl.out Tryd.underlying131 rfl (by kernel_rfl) ?_) | ((with_reducible refine gate_store (t := 131) (p := 6) rfl ?_); refine wpList_store_row rfl 131 _ _ rfl (w.heap.size + 1 + 1) _ rfl rfl 131 _ HZ.out (by kernel_rfl) rfl (rowI_one _) ?_))
      have HZ2 := setRow_heap wr (w.heap.size + 1 + 1) _ (rowI (jsetK x a turned x.f1)) 131 _ HZ.out
      exact bodyPost_ret (results_cell_row rfl _ _ (w.heap.size + 1 + 1) 131 _ _ _ rfl HZ2 Tryd.underlying131 rfl (by kernel_rfl)) rfl ⟨rfl, below_setRow HB.out (by omega) _⟩
theorem rowI_lit (f : Nat → Bool) : rowI f = #[.bool (f 0), .bool (f 1), .bool (f 2), .bool (f 3), .bool (f 4), .bool (f 5), .bool (f 6), .bool (f 7), .bool (f 8), .bool (f 9), .bool (f 10), .bool (f 11), .bool (f 12), .bool (f 13), .bool (f 14), .bool (f 15)] := rfl
set_option maxRecDepth 100000 in
theorem run_eqI (d : Nat) (f g : Nat → Bool) (w : World) : (Op.equalIn (d + 1 + 1) 131 (.agg (rowI f)) (.agg (rowI g))).run Tryd.prog w = .ok ((List.range 16).all fun i => f i == g i) w := by
  obtain ⟨i0, hi⟩ : ∃ i, Tryd.prog.info? 4 = some i := ⟨_, rfl⟩
  rw [run_equalIn_array w (d + 1) (rowI f) (rowI g) Tryd.underlying131 hi]
  have hcs : Tryd.prog.cellsOf 4 = 1 := by kernel_rfl
  rw [hcs]
  refine run_eqItems_fn (fun i => .bool (f i)) (fun i => .bool (g i)) _ _ ?_ ?_ ?_
  all_goals
    intro i hi
    simp only [List.mem_range] at hi
    try simp only [rowI_lit]
    match i, hi with
    | 0, _ => first | (go_simp; done) | (go_simp; rfl)
    | 1, _ => first | (go_simp; done) | (go_simp; rfl)
    | 2, _ => first | (go_simp; done) | (go_simp; rfl)
    | 3, _ => first | (go_simp; done) | (go_simp; rfl)
    | 4, _ => first | (go_simp; done) | (go_simp; rfl)
    | 5, _ => first | (go_simp; done) | (go_simp; rfl)
    | 6, _ => first | (go_simp; done) | (go_simp; rfl)
    | 7, _ => first | (go_simp; done) | (go_simp; rfl)
    | 8, _ => first | (go_simp; done) | (go_simp; rfl)
    | 9, _ => first | (go_simp; done) | (go_simp; rfl)
    | 10, _ => first | (go_simp; done) | (go_simp; rfl)
    | 11, _ => first | (go_simp; done) | (go_simp; rfl)
    | 12, _ => first | (go_simp; done) | (go_simp; rfl)
    | 13, _ => first | (go_simp; done) | (go_simp; rfl)
    | 14, _ => first | (go_simp; done) | (go_simp; rfl)
    | 15, _ => first | (go_simp; done) | (go_simp; rfl)
    | n + 16, h => exact absurd h (by omega)
structure Hit (h : Nat) (hb : Nat → Nat → (Nat → Bool) → Bool) : Prop where
  call : ∀ (lo hi : Nat) (f : Nat → Bool), lo ≤ hi → hi < 16 → ∀ w : World, Calls Tryd.prog h #[.agg #[.int .i64 lo, .int .i64 hi], .agg (rowI f)] w fun e w' => e = .returned (.bool (hb lo hi f)) ∧ Below w.heap.size w w'
  fn : ∃ fn, Tryd.prog.funcs[h]? = some fn ∧ (fn.name == "runtime.NumGoroutine") = false ∧ fn.body.isSome = true
theorem hit_can : Hit 131 kcanB := ⟨calls_kcan, _, Tryd.func131, by kernel_rfl, rfl⟩
theorem hit_must : Hit 133 kmustB := ⟨calls_kmust, _, Tryd.func133, by kernel_rfl, rfl⟩
structure WoodOk (y : S48) : Prop where
  few : y.f1.length ≤ 3
  knot : ∀ k ∈ y.f1, 0 ≤ k.f0 ∧ k.f0 ≤ k.f1 ∧ k.f1 < 16
def soundB (y : S48) (x : S50) (a : Nat) (turned : Bool) (hb : Nat → Nat → (Nat → Bool) → Bool) : Bool :=
  ((List.range 16).all fun i => jset x a turned i == false) || y.f1.all fun k => !hb k.f0.toNat k.f1.toNat (jset x a turned)
set_option maxRecDepth 100000 in
set_option maxHeartbeats 1000000 in
theorem calls_sound (PA : Option Addr) (pc : Nat) (QA : Option Addr) (qc m : Nat) (P : List S48) (Q : List S50) (i p a : Nat) (turned : Bool) (h : Nat) (hb : Nat → Nat → (Nat → Bool) → Bool) (hh : Hit h hb) (hi : i < P.length) (hp : p < Q.length) (hy : WoodOk (P.getD i z48)) (hx : Fits (Q.getD p z50) a) (w : World) (hP : Kd.C k48 w PA P.length P) (hQ : Kd.C k50 w QA Q.length Q) :
    Calls Tryd.prog 98 #[.agg (bookV PA P.length pc QA Q.length qc m), .agg #[.int .i64 i, .int .i64 p, .int .i64 a], .bool turned, .func (.func h) #[] #[]] w fun e w' =>
      e = .returned (.bool (soundB (P.getD i z48) (Q.getD p z50) a turned hb)) ∧ Below w.heap.size w w' := by
  have h2 := new2 w (.cells #[.slice PA P.length pc, .slice QA Q.length qc, .map (some m)] 84) (.cells #[.int .i64 i, .int .i64 p, .int .i64 a] 87)
  obtain ⟨x, hxe⟩ : ∃ x, Q.getD p z50 = x := ⟨_, rfl⟩
  have hcj := fun W hQW => calls_joints PA P.length pc QA qc m Q i p a turned hp hx W hQW
  obtain ⟨J, hJ⟩ : ∃ J, jset (Q.getD p z50) a turned = J := ⟨_, rfl⟩
  unfold soundB
  rw [hJ] at hcj ⊢
  have heq : ∀ W, (Op.equalIn 10000 131 (.agg #[.bool (J 0), .bool (J 1), .bool (J 2), .bool (J 3), .bool (J 4), .bool (J 5), .bool (J 6), .bool (J 7), .bool (J 8), .bool (J 9), .bool (J 10), .bool (J 11), .bool (J 12), .bool (J 13), .bool (J 14), .bool (J 15)]) (.agg (rowI fun _ => false))).run Tryd.prog W = .ok ((List.range 16).all fun i => J i == false) W := fun W => run_eqI 9998 J (fun _ => false) W
  obtain ⟨bz, hbz⟩ : ∃ bz, ((List.range 16).all fun i => J i == false) = bz := ⟨_, rfl⟩
  rw [hbz] at heq ⊢
  obtain ⟨pa, B1, d1, rfl, e0, e1, hl1, hC1⟩ := at_wood hP i hi
  obtain ⟨y, hye⟩ : ∃ y, P.getD i z48 = y := ⟨_, rfl⟩
  rw [hye] at e0 e1 hl1 hC1 hy ⊢
  have HE1 := Lib.hid e1; have HC1 := Lib.hid hC1
  clear e0 e1 hC1 hye hbz
  have HP := Lib.hid hP; have HQ := Lib.hid hQ; have HY := Lib.hid hy; have HX := Lib.hid hx; have HCJ := Lib.hid hcj
  clear hP hQ hy hx hcj hxe hJ
  unfold bookV at HCJ
  obtain ⟨n0, n1, n3, n4⟩ := h2
  have HN0 := Lib.hid n0; have HN1 := Lib.hid n1; have HN3 := Lib.hid n3
  clear n0 n1 n3
  go_enter Tryd.func98, Tryd.ntmps98
  unfold bookV
  go_wp2_with (first | (go_at_call 111; refine (HCJ.out _ (Kd.C_below HQ.out HN3.out)).mono ?_; rintro e w1 ⟨rfl, hb1⟩; have hs1 := hb1.size; rw [n4] at hs1; have HA := Lib.hid (below_far HN0.out hb1); have HS := Lib.hid (below_far HN1.out hb1); have HB := Lib.hid (HN3.out.trans (hb1.mono (by rw [n4]; omega))); clear HN0 HN1 HN3 n4 hb1; have HN := Lib.hid (blk_new w1 (.cells zeroI 131))) | ((with_reducible refine gate_store (t := 131) (p := 9) rfl ?_); refine wpList_store_row rfl 131 _ _ rfl w1.heap.size _ rfl rfl 131 _ HN.out (by kernel_rfl) rfl (rowI_one _) ?_; have HJ := Lib.hid (setRow_heap _ w1.heap.size _ (rowI J) 131 _ HN.out); have HA2 := Lib.hid ((setRow_other (w1.alloc (.cells zeroI 131)) w1.heap.size w.heap.size (rowI J) (by omega)).trans (blk_alloc HA.out _)); have HS2 := Lib.hid ((setRow_other (w1.alloc (.cells zeroI 131)) w1.heap.size (w.heap.size + 1) (rowI J) (by omega)).trans (blk_alloc HS.out _)); have HB2 := Lib.hid (below_setRow (g := w1.heap.size) (HB.out.alloc (by omega) (.cells zeroI 131)) (by omega) (rowI J)); clear HA HS HB; (try change wpList _ _ _ _ _ ((w1.alloc (.cells zeroI 131)).setRow w1.heap.size (rowI J))); generalize (w1.alloc (.cells zeroI 131)).setRow w1.heap.size (rowI J) = W at HJ HA2 HS2 HB2 ⊢))
  refine start_ (n := 3) (S := fun w' => w'.cell? ⟨w1.heap.size, 0, none⟩ = some (.bool (J 0)) ∧ w'.cell? ⟨w1.heap.size, 1, none⟩ = some (.bool (J 1)) ∧ w'.cell? ⟨w1.heap.size, 2, none⟩ = some (.bool (J 2)) ∧ w'.cell? ⟨w1.heap.size, 3, none⟩ = some (.bool (J 3)) ∧ w'.cell? ⟨w1.heap.size, 4, none⟩ = some (.bool (J 4)) ∧ w'.cell? ⟨w1.heap.size, 5, none⟩ = some (.bool (J 5)) ∧ w'.cell? ⟨w1.heap.size, 6, none⟩ = some (.bool (J 6)) ∧ w'.cell? ⟨w1.heap.size, 7, none⟩ = some (.bool (J 7)) ∧ w'.cell? ⟨w1.heap.size, 8, none⟩ = some (.bool (J 8)) ∧ w'.cell? ⟨w1.heap.size, 9, none⟩ = some (.bool (J 9)) ∧ w'.cell? ⟨w1.heap.size, 10, none⟩ = some (.bool (J 10)) ∧ w'.cell? ⟨w1.heap.size, 11, none⟩ = some (.bool (J 11)) ∧ w'.cell? ⟨w1.heap.size, 12, none⟩ = some (.bool (J 12)) ∧ w'.cell? ⟨w1.heap.size, 13, none⟩ = some (.bool (J 13)) ∧ w'.cell? ⟨w1.heap.size, 14, none⟩ = some (.bool (J 14)) ∧ w'.cell? ⟨w1.heap.size, 15, none⟩ = some (.bool (J 15))) (ds := []) #[false, false, false] (by kernel_rfl) rfl rfl ⟨rowI_cell (blk_drew HJ.out) 0 (by decide), rowI_cell (blk_drew HJ.out) 1 (by decide), rowI_cell (blk_drew HJ.out) 2 (by decide), rowI_cell (blk_drew HJ.out) 3 (by decide), rowI_cell (blk_drew HJ.out) 4 (by decide), rowI_cell (blk_drew HJ.out) 5 (by decide), rowI_cell (blk_drew HJ.out) 6 (by decide), rowI_cell (blk_drew HJ.out) 7 (by decide), rowI_cell (blk_drew HJ.out) 8 (by decide), rowI_cell (blk_drew HJ.out) 9 (by decide), rowI_cell (blk_drew HJ.out) 10 (by decide), rowI_cell (blk_drew HJ.out) 11 (by decide), rowI_cell (blk_drew HJ.out) 12 (by decide), rowI_cell (blk_drew HJ.out) 13 (by decide), rowI_cell (blk_drew HJ.out) 14 (by decide), rowI_cell (blk_drew HJ.out) 15 (by decide)⟩ (fun hHeld => ?_)
  refine tk_ (i := 0) (N := some 16) (qa_ 3 1) hHeld ?_
  refine on_ (i := 1) (N := some 17) (qa_ 3 3) (fun K hK => ?_)
  refine goes_ Tryd.func105 (by kernel_rfl) rfl #[] (by rfl) rfl rfl (by first | (simp; done) | (simp only [List.map_toArray, List.map_cons, List.map_nil]; rfl)) ?_
  with_reducible refine (calls_none _).mono ?_
  rintro e w2 ⟨rfl, hb2⟩
  have hb3 : Below W.heap.size W w2 := undrew hb2
  have HJ3 := Lib.hid (blk_below HJ.out hb3)
  refine ⟨_, rfl, ?_⟩
  refine hK.out _ _ ⟨rowI_cell HJ3.out 0 (by decide), rowI_cell HJ3.out 1 (by decide), rowI_cell HJ3.out 2 (by decide), rowI_cell HJ3.out 3 (by decide), rowI_cell HJ3.out 4 (by decide), rowI_cell HJ3.out 5 (by decide), rowI_cell HJ3.out 6 (by decide), rowI_cell HJ3.out 7 (by decide), rowI_cell HJ3.out 8 (by decide), rowI_cell HJ3.out 9 (by decide), rowI_cell HJ3.out 10 (by decide), rowI_cell HJ3.out 11 (by decide), rowI_cell HJ3.out 12 (by decide), rowI_cell HJ3.out 13 (by decide), rowI_cell HJ3.out 14 (by decide), rowI_cell HJ3.out 15 (by decide)⟩ (fun hHeld => ?_)
  clear hK K
  refine nm_ (some 17) ?_
  refine pu_ (i := 2) (N := some 18) (qa_ 3 7) ?_
  refine done_ (by kernel_rfl) ?_
  have HB3 := Lib.hid (HB2.out.trans (hb3.mono (below_size HB2.out)))
  cases bz with
  | true =>
    go_wp2_with fail
    go_ret
    exact ⟨rfl, HB3.out⟩
  | false =>
    have a0 : w2.cell? ⟨w.heap.size, 0, none⟩ = some (.slice (some pa) P.length pc) := blk_cell (blk_below HA2.out hb3) 0
    have a1 : w2.cell? ⟨w.heap.size + 1, 0, none⟩ = some (.int .i64 i) := blk_cell (blk_below HS2.out hb3) 0
    have a2 := pw_cell_below HB3.out HE1.out
    go_wp2_with fail
    obtain ⟨fn, hf0, hf1, hf2⟩ := hh.fn
    obtain ⟨bc, hf3⟩ : ∃ c, fn.body = some c := by cases hbb : fn.body with | none => rw [hbb] at hf2; cases hf2 | some c => exact ⟨c, rfl⟩
    have hent := enters_of hf0 hf1 hf3
    have HENT := Lib.hid hent
    clear a0 a1 a2 hf0 hf1 hf2 hf3 hent heq HA2 HS2 hb3 HN HCJ hHeld
    go_loopw [28] (fun v wr => ∃ k : Nat, k ≤ y.f1.length ∧ v = .int .i64 k ∧ Hid (∀ j, j < k → hb (y.f1.getD j z60).f0.toNat (y.f1.getD j z60).f1.toNat J = false) ∧ Hid (wr.heap[w1.heap.size]? = some (.cells (rowI J) 131 (0, 0))) ∧ Hid (Below w.heap.size w wr)) (fun v _ => y.f1.length - (intOf v).toNat)
    case atStart => exact ⟨0, Nat.zero_le _, rfl, Lib.hid (fun j h => absurd h (Nat.not_lt_zero _)), HJ3, HB3⟩
    case round =>
      clear HB3 HJ3 HJ
      obtain ⟨k, hk, rfl, HK, HJ, HB⟩ := hrel
      have hfew := HY.out.few
      by_cases hlt : k < y.f1.length
      · obtain ⟨ad, rfl, s0, s1⟩ := at_span (Kd.C_below HC1.out HB.out) k hlt
        have hmem : y.f1.getD k z60 ∈ y.f1 := by
          rw [show y.f1.getD k z60 = y.f1[k] from by simp [hlt]]; exact List.getElem_mem _
        obtain ⟨k0, k1, k2⟩ := HY.out.knot _ hmem
        obtain ⟨s, hs⟩ : ∃ s, y.f1.getD k z60 = s := ⟨_, rfl⟩
        rw [hs] at s0 s1 k0 k1 k2
        obtain ⟨lo, hlo⟩ : ∃ lo : Nat, s.f0 = lo := ⟨s.f0.toNat, by omega⟩
        obtain ⟨hi', hhi⟩ : ∃ h : Nat, s.f1 = h := ⟨s.f1.toNat, by omega⟩
        have hle : lo ≤ hi' := by omega
        have hl16 : hi' < 16 := by omega
        have hlo2 : s.f0.toNat = lo := by omega
        have hhi2 : s.f1.toNat = hi' := by omega
        rw [hlo] at s0
        rw [hhi] at s1
        have HSS := Lib.hid hs; have HLO := Lib.hid hlo2; have HHI := Lib.hid hhi2
        clear hs hlo hhi k0 k1 k2 hmem hlo2 hhi2
        have HJA := Lib.hid (blk_alloc HJ.out (.cells #[.int .i64 lo, .int .i64 hi'] 60))
        have HBA := Lib.hid (below_alloc HB.out (.cells #[.int .i64 lo, .int .i64 hi'] 60))
        have hcall := hh.call lo hi' J hle hl16
        have hent : ∀ args w, (callFunc h args).run Tryd.prog w = .ok (.enter h args) w := HENT.out
        obtain ⟨r, hr⟩ : ∃ r, hb lo hi' J = r := ⟨_, rfl⟩
        rw [hr] at hcall
        have HR := Lib.hid hr; clear hr
        cases r with
        | true =>
          go_wp2_with (first | ((with_reducible refine gate_dst (N := 34) rfl ?_); refine wpList_load_row rfl 131 _ rfl w1.heap.size rfl 131 _ _ _ HJA.out Tryd.underlying131 rfl (by kernel_rfl) ?_) | (go_at_fn h; refine (hcall _).mono ?_; rintro e w3 ⟨rfl, hb4⟩))
          go_ret
          suffices hfin : (y.f1.all fun k => !hb k.f0.toNat k.f1.toNat J) = false from ⟨by rw [hfin]; rfl, HBA.out.trans (hb4.mono (below_size HBA.out))⟩
          rw [Bool.eq_false_iff, ne_eq, List.all_eq_true]
          intro hall
          have hm : y.f1.getD k z60 ∈ y.f1 := by
            rw [show y.f1.getD k z60 = y.f1[k] from by simp [hlt]]; exact List.getElem_mem _
          have := hall _ hm
          rw [HSS.out, HLO.out, HHI.out, HR.out] at this
          cases this
        | false =>
          go_wp2_with (first | ((with_reducible refine gate_dst (N := 34) rfl ?_); refine wpList_load_row rfl 131 _ rfl w1.heap.size rfl 131 _ _ _ HJA.out Tryd.underlying131 rfl (by kernel_rfl) ?_) | (go_at_fn h; refine (hcall _).mono ?_; rintro e w3 ⟨rfl, hb4⟩))
          go_roundw
          case rel =>
            refine ⟨k + 1, by omega, by go_num, fun j hj => ?_, blk_below HJA.out hb4, HBA.out.trans (hb4.mono (below_size HBA.out))⟩
            by_cases e : j = k
            · subst e
              rw [HSS.out, HLO.out, HHI.out, HR.out]
            · exact HK.out j (by omega)
          case measure => simp [intOf]; omega
      · obtain rfl : k = y.f1.length := by omega
        go_wp2_with fail
        go_ret
        suffices hfin : (y.f1.all fun k => !hb k.f0.toNat k.f1.toNat J) = true from ⟨by rw [hfin]; rfl, HB.out⟩
        rw [List.all_eq_true]
        intro s hs
        obtain ⟨j, hj, rfl⟩ := List.getElem_of_mem hs
        have := HK.out j hj
        rw [show y.f1.getD j z60 = y.f1[j] from by simp [hj]] at this
        rw [this]; rfl
end Go.Proofs.YtekjlpldooihhaaDoorP
namespace Go.Proofs.YtekjlpldooihhaaDoorP
open Go.RowKit Go.Proofs.YtekjlpldooihhaaDoorW.PrintWords Go.Proofs.YtekjlpldooihhaaDoorW.PrintLast Go.Proofs.YtekjlpldooihhaaDoorW.PrintMore Go.Proofs.YtekjlpldooihhaaDoorH Go.Proofs.YtekjlpldooihhaaDoorEv Go.Proofs.YtekjlpldooihhaaDoor.PA
set_option linter.unusedVariables false
set_option linter.unusedSimpArgs false
def Cells (w w1 : World) : Prop := ∀ a v, w.cell? a = some v → w1.cell? a = some v
def Keeps {α : Type} (d : Kd α) : Prop := ∀ (w w1 : World) (x : α) (cs : List Value), Cells w w1 → d.K w x cs → d.K w1 x cs
theorem C_keeps {α : Type} {d : Kd α} (hd : Keeps d) {w w1 : World} (hc : Cells w w1) {A : Option Addr} {n : Nat} {l : List α} (h : d.C w A n l) : d.C w1 A n l := by
  obtain ⟨hl, h2, h3⟩ := h
  refine ⟨hl, h2, fun h0 => ?_⟩
  obtain ⟨ad, e, h1⟩ := h3 h0
  refine ⟨ad, e, fun j x hx => ?_⟩
  obtain ⟨c, c1, c2, c3⟩ := h1 j x hx
  exact ⟨c, c1, hd w w1 _ _ hc c2, fun i u hi => hc _ _ (c3 i u hi)⟩
theorem keeps_int : Keeps (Kd.int .i64) := fun _ _ _ _ _ h => h
theorem keeps_bool : Keeps Kd.bool := fun _ _ _ _ _ h => h
theorem keeps_slice {α : Type} {e : Nat} {d : Kd α} (hd : Keeps d) : Keeps (Kd.slice e d) := by
  rintro w w1 x cs hc ⟨A, c, rfl, hl, hr⟩
  exact ⟨A, c, rfl, hl, C_keeps hd hc hr⟩
theorem keeps_pair {α β : Type} {a : Kd α} {b : Kd β} (ha : Keeps a) (hb : Keeps b) : Keeps (Kd.pair a b) := by
  rintro w w1 x cs hc ⟨c1, c2, rfl, h1, h2⟩
  exact ⟨c1, c2, rfl, ha w w1 _ _ hc h1, hb w w1 _ _ hc h2⟩
theorem keeps_iso {α β : Type} {d : Kd α} {f : β → α} (hd : Keeps d) : Keeps (Kd.iso d f) := fun w w1 x cs hc h => hd w w1 _ cs hc h
theorem keeps_span : Keeps k60 := keeps_iso (keeps_pair keeps_int keeps_int)
theorem keeps_wood : Keeps k48 := keeps_iso (keeps_pair keeps_int (keeps_slice keeps_span))
theorem keeps_shape : Keeps k50 := keeps_iso (keeps_pair keeps_int (keeps_pair (keeps_slice keeps_int) keeps_bool))
def IsMap (w : World) (m : Nat) : Prop := ∃ arr clock, w.heap[m]? = some (.map arr clock)
theorem isMap {n : Nat} {w : World} {m : Nat} {f : List Int → Option Value} (h : MapFn n w m f) : IsMap w m := by
  obtain ⟨arr, clock, h1, _⟩ := h; exact ⟨arr, clock, h1⟩
theorem grown_cells {w w1 : World} {m : Nat} (hm : IsMap w m) (hg : w.grownBy w1 (some m)) : Cells w w1 := by
  intro a v h
  obtain ⟨arr, clock, h0⟩ := hm
  have hlt := World.block_lt_of_cell? w a h
  have hne : a.block ≠ m := fun e => by
    have h1 := h
    unfold World.cell? at h1
    rw [e, h0] at h1
    simp at h1
  have h2 := hg.block a.block hlt (by simpa using hne)
  unfold World.cell? at h ⊢
  rw [h2]; exact h
theorem grown_trans {A B C : World} {m : Nat} (h : A.grownBy B (some m)) (k : B.grownBy C (some m)) : A.grownBy C (some m) :=
  ⟨k.os.trans h.os, k.tape.trans h.tape, k.output.trans h.output, Nat.le_trans h.size k.size, fun i hi hr => (k.block i (Nat.lt_of_lt_of_le hi h.size) hr).trans (h.block i hi hr)⟩
theorem blk_grownM {w w1 : World} {m g : Nat} {cs : Array Value} {t : TypeId} {fr : Nat × Nat} (h : w.heap[g]? = some (.cells cs t fr)) (hm : IsMap w m) (hg : w.grownBy w1 (some m)) : w1.heap[g]? = some (.cells cs t fr) := by
  obtain ⟨arr, clock, h0⟩ := hm
  refine (hg.block g (blk_lt h) (fun e => ?_)).trans h
  cases e
  rw [h] at h0
  cases h0
theorem grown_Below {w w1 w2 : World} {m : Nat} (hb : Below w.heap.size w w1) (hm : w.heap.size ≤ m) (hg : w1.grownBy w2 (some m)) : Below w.heap.size w w2 :=
  hb.grown hg (below_size hb) (fun k e => by cases e; exact hm)
structure Glob (w : World) : Prop where
  can : w.cell? ⟨1, 0, none⟩ = some (.func (.func 131) #[] #[])
  must : w.cell? ⟨1, 1, none⟩ = some (.func (.func 133) #[] #[])
  no0 : w.cell? ⟨0, 0, none⟩ = some (.int .i64 (-1))
  no1 : w.cell? ⟨0, 1, none⟩ = some (.int .i64 (-1))
  no2 : w.cell? ⟨0, 2, none⟩ = some (.int .i64 (-1))
theorem Glob.below {w w1 : World} (h : Glob w) (hb : Below w.heap.size w w1) : Glob w1 :=
  ⟨pw_cell_below hb h.can, pw_cell_below hb h.must, pw_cell_below hb h.no0, pw_cell_below hb h.no1, pw_cell_below hb h.no2⟩
theorem Glob.cells {w w1 : World} (h : Glob w) (hc : Cells w w1) : Glob w1 := ⟨hc _ _ h.can, hc _ _ h.must, hc _ _ h.no0, hc _ _ h.no1, hc _ _ h.no2⟩
theorem eqSpot (d : Nat) (w : World) (x0 y0 x1 y1 x2 y2 : Int) :
    (Op.equalIn (d + 2) 87 (.agg #[.int .i64 x0, .int .i64 x1, .int .i64 x2]) (.agg #[.int .i64 y0, .int .i64 y1, .int .i64 y2])).run Tryd.prog w = .ok (x0 == y0 && (x1 == y1 && (x2 == y2))) w := by
  refine eqA_of Tryd.underlying87 (by kernel_rfl) ?_
  refine eqf_cons (by rfl) (by go_simp; rfl) (by go_simp; rfl) (by go_simp) ?_
  refine eqf_cons (by rfl) (by go_simp; rfl) (by go_simp; rfl) (by go_simp) ?_
  exact eqf_last (by rfl) (by go_simp; rfl) (by go_simp; rfl) (by go_simp)
theorem chkInt (em : Bool) (d : Nat) (w : World) (x : Int) : (Instr.checkKey em (d + 1) 3 (.int .i64 x)).run Tryd.prog w = .ok () w := by
  rw [Instr.checkKey]
  go_simp
theorem chkSpot (em : Bool) (d : Nat) (w : World) (x0 x1 x2 : Int) : (Instr.checkKey em (d + 1 + 1) 87 (.agg #[.int .i64 x0, .int .i64 x1, .int .i64 x2])).run Tryd.prog w = .ok () w := by
  have h := chkInt em d
  rw [Instr.checkKey]
  go_simp
theorem eqSpotL (d : Nat) (w : World) (a b : List Int) (ha : a.length = 3) (hb : b.length = 3) : (Op.equalIn (d + 2) 87 (keyA a) (keyA b)).run Tryd.prog w = .ok (decide (a = b)) w := by
  match a, ha, b, hb with
  | [a0, a1, a2], _, [b0, b1, b2], _ =>
    refine (eqSpot d w a0 b0 a1 b1 a2 b2).trans ?_
    congr 1
    rw [Bool.eq_iff_iff]
    simp
theorem spotKey : KeyEq Tryd.prog 87 3 where
  desc := ⟨_, Tryd.underlying87⟩
  check := fun em a ha w => by
    match a, ha with
    | [a0, a1, a2], _ => exact chkSpot em 9998 w a0 a1 a2
  eq := fun a b ha hb w => eqSpotL 9998 w a b ha hb
def hbK (k : Nat) : Nat → Nat → (Nat → Bool) → Bool := if k = 0 then kcanB else kmustB
def okB (y : S48) (x : S50) (a k : Nat) : Bool := soundB y x a false (hbK k) || (x.f2 && soundB y x a true (hbK k))
def canN (y : S48) (x : S50) (a : Nat) : Nat := if okB y x a 0 then 2 else if okB y x a 1 then 1 else 0
theorem canN_le (y : S48) (x : S50) (a : Nat) : canN y x a ≤ 2 := by unfold canN; split <;> (try split) <;> omega
def Memo (P : List S48) (Q : List S50) (f : List Int → Option Value) : Prop := ∀ (i p a : Nat) v, f [(i : Int), (p : Int), (a : Int)] = some v → v = .int .i64 (canN (P.getD i z48) (Q.getD p z50) a)
structure Bk (PA : Option Addr) (QA : Option Addr) (m : Nat) (P : List S48) (Q : List S50) (w : World) : Prop where
  glob : Glob w
  planks : Kd.C k48 w PA P.length P
  parts : Kd.C k50 w QA Q.length Q
  map : ∃ f, MapFn 3 w m f ∧ Memo P Q f
theorem Bk.is {PA QA : Option Addr} {m : Nat} {P : List S48} {Q : List S50} {w : World} (h : Bk PA QA m P Q w) : IsMap w m := by
  obtain ⟨_, _, _, f, h1, _⟩ := h; exact isMap h1
theorem Bk.below {PA QA : Option Addr} {m : Nat} {P : List S48} {Q : List S50} {w w1 : World} (h : Bk PA QA m P Q w) (hb : Below w.heap.size w w1) : Bk PA QA m P Q w1 := by
  obtain ⟨h1, h2, h3, f, h4, h5⟩ := h; exact ⟨h1.below hb, Kd.C_below h2 hb, Kd.C_below h3 hb, f, h4.below hb, h5⟩
theorem Bk.alloc {PA QA : Option Addr} {m : Nat} {P : List S48} {Q : List S50} {w : World} (h : Bk PA QA m P Q w) (o : Obj) : Bk PA QA m P Q (w.alloc o) := h.below (below_alloc (Below.refl w.heap.size w) o)
theorem Bk.drew {PA QA : Option Addr} {m : Nat} {P : List S48} {Q : List S50} {w : World} (h : Bk PA QA m P Q w) : Bk PA QA m P Q w.drew := h.below (Below.refl _ w).drew
theorem Bk.lt {PA QA : Option Addr} {m : Nat} {P : List S48} {Q : List S50} {w : World} (h : Bk PA QA m P Q w) : m < w.heap.size := by
  obtain ⟨_, _, _, f, h4, _⟩ := h; exact h4.lt
end Go.Proofs.YtekjlpldooihhaaDoorP
namespace Go.Proofs.YtekjlpldooihhaaDoorP
open Go.RowKit Go.Proofs.YtekjlpldooihhaaDoorW.PrintWords Go.Proofs.YtekjlpldooihhaaDoorW.PrintLast Go.Proofs.YtekjlpldooihhaaDoorW.PrintMore Go.Proofs.YtekjlpldooihhaaDoorH Go.Proofs.YtekjlpldooihhaaDoorEv Go.Proofs.YtekjlpldooihhaaDoor.PA
set_option linter.unusedVariables false
set_option linter.unusedSimpArgs false
theorem on_f (a b c : Int) : plank_on.f a b c = some (decide (b ≤ a) && decide (a ≤ c)) := by
  unfold plank_on.f
  by_cases h : b ≤ a <;> simp [h]
theorem calls_on (a b c : Int) (w : World) : Calls Tryd.prog 70 #[.int .i64 a, .int .i64 b, .int .i64 c] w fun e w' => e = .returned (.bool (decide (b ≤ a) && decide (a ≤ c))) ∧ Below w.heap.size w w' :=
  (plank_on.calls a b c _ w (on_f a b c)).mono fun e w' h => ⟨h.1, h.2.below⟩
def liesB (y : S48) (x : S50) (a : Int) : Bool := decide (0 ≤ a) && decide (a ≤ y.f0 - x.f0)
end Go.Proofs.YtekjlpldooihhaaDoorP
namespace Go.Proofs.YtekjlpldooihhaaDoorP
set_option linter.unusedSimpArgs false
open Go Go.RowKit Go.Proofs.YtekjlpldooihhaaDoorRw Go.Proofs.YtekjlpldooihhaaDoor
set_option linter.unusedVariables false
theorem gn1 : Tryd.prog.globalNamed "skewbald/plank.hits" = some 1 := by kernel_rfl
theorem gt1 : (Tryd.prog.globals[1]?).map (·.type) = some 125 := by kernel_rfl
theorem gn2 : Tryd.prog.globalNamed "skewbald/plank.nowhere" = some 0 := by kernel_rfl
theorem gt2 : (Tryd.prog.globals[0]?).map (·.type) = some 87 := by kernel_rfl
theorem named_can : Tryd.prog.funcNamed "(skewbald/plank.knot).can" = some 131 := by kernel_rfl
theorem named_must : Tryd.prog.funcNamed "(skewbald/plank.knot).must" = some 133 := by kernel_rfl
theorem utf8_inj {a b : String} (h : a.toUTF8.data.toList = b.toUTF8.data.toList) : a = b := by
  have h1 : a.toUTF8 = b.toUTF8 := by
    rcases ha : a.toUTF8 with ⟨x⟩
    rcases hb : b.toUTF8 with ⟨y⟩
    rw [ha, hb] at h
    have : x = y := by
      have := congrArg List.toArray h
      simpa using this
    rw [this]
  exact String.toByteArray_inj.1 h1
theorem token_can {t : TypeId} {v : Value} (h : funcToken Tryd.prog (t, v) = "(skewbald/plank.knot).can".toUTF8.data.toList) : v = .func (.func 131) #[] #[] := by
  have hb : ∃ b r, "(skewbald/plank.knot).can".toUTF8.data.toList = b :: r := ⟨_, _, rfl⟩
  obtain ⟨b, r, e⟩ := hb
  obtain ⟨f, fn, rfl, hfn, hnm, hn⟩ := funcToken_tells (h.trans e)
  have : fn.name = "(skewbald/plank.knot).can" := utf8_inj (hn.trans e.symm)
  rw [this, named_can] at hnm
  obtain rfl := Option.some.inj hnm
  rfl
theorem token_must {t : TypeId} {v : Value} (h : funcToken Tryd.prog (t, v) = "(skewbald/plank.knot).must".toUTF8.data.toList) : v = .func (.func 133) #[] #[] := by
  have hb : ∃ b r, "(skewbald/plank.knot).must".toUTF8.data.toList = b :: r := ⟨_, _, rfl⟩
  obtain ⟨b, r, e⟩ := hb
  obtain ⟨f, fn, rfl, hfn, hnm, hn⟩ := funcToken_tells (h.trans e)
  have : fn.name = "(skewbald/plank.knot).must" := utf8_inj (hn.trans e.symm)
  rw [this, named_must] at hnm
  obtain rfl := Option.some.inj hnm
  rfl
def canBytes : List UInt8 := [40, 115, 107, 101, 119, 98, 97, 108, 100, 47, 112, 108, 97, 110, 107, 46, 107, 110, 111, 116, 41, 46, 99, 97, 110]
def mustBytes : List UInt8 := [40, 115, 107, 101, 119, 98, 97, 108, 100, 47, 112, 108, 97, 110, 107, 46, 107, 110, 111, 116, 41, 46, 109, 117, 115, 116]
theorem canBytes_eq : canBytes = "(skewbald/plank.knot).can".toUTF8.data.toList := by rfl
theorem mustBytes_eq : mustBytes = "(skewbald/plank.knot).must".toUTF8.data.toList := by rfl
theorem list2 {α : Type} {l : List α} (h : l.length = 2) : ∃ a b, l = [a, b] := by
  match l, h with
  | [a, b], _ => exact ⟨a, b, rfl⟩
theorem list3 {α : Type} {l : List α} (h : l.length = 3) : ∃ a b c, l = [a, b, c] := by
  match l, h with
  | [a, b, c], _ => exact ⟨a, b, c, rfl⟩
theorem arr2 {α : Type} {l : Array α} (h : l.toList.length = 2) : ∃ a b, l = #[a, b] := by
  obtain ⟨a, b, e⟩ := list2 h
  exact ⟨a, b, by rw [← e]⟩
theorem arr3 {α : Type} {l : Array α} (h : l.toList.length = 3) : ∃ a b c, l = #[a, b, c] := by
  obtain ⟨a, b, c, e⟩ := list3 h
  exact ⟨a, b, c, by rw [← e]⟩
theorem trod_func' {H : Type} {enc : TypeId × Value → H} {W : World} {fuel : Nat} {v : Value} {x : DataW H × List MemPlace} (h : DataW.trod enc Tryd.prog W 0 (fun _ => true) true fuel 124 [v] = some x) : x.1 = .nil ∨ x.1 = .held (enc (124, v)) := by
  obtain ⟨v', hv, hI, rfl⟩ := func_of_trod Tryd.underlying124 h
  obtain rfl : v = v' := by simpa using hv
  cases v <;> first | (exact hI.elim; done) | exact .inl rfl | exact .inr rfl
set_option maxRecDepth 100000 in
theorem hits_of {W : World} (h : funcsAt Tryd.prog W "skewbald/plank.hits" (.agg [.iface "func" (.lit (.string canBytes)), .iface "func" (.lit (.string mustBytes))])) :
    W.cell? ⟨1, 0, none⟩ = some (.func (.func 131) #[] #[]) ∧ W.cell? ⟨1, 1, none⟩ = some (.func (.func 133) #[] #[]) := by
  obtain ⟨g, t, cs, fuel, p, hg, ht, hv, htr⟩ := h
  obtain rfl := Option.some.inj (gn1.symm.trans hg)
  obtain rfl := Option.some.inj (gt1.symm.trans ht)
  obtain ⟨xs, m, _, hx, hlen, hxl, hel⟩ := DataW.trod_array Tryd.underlying125 htr
  have hc2 : Tryd.prog.cellsOf 125 = 2 := by kernel_rfl
  have hc1 : Tryd.prog.cellsOf 124 = 1 := by kernel_rfl
  rw [hc2] at hlen
  obtain ⟨u0, u1, rfl⟩ := arr2 hlen
  obtain ⟨x0, x1, rfl⟩ := list2 hxl
  have e0 := hel 0 (by omega)
  have e1 := hel 1 (by omega)
  rw [hc1] at e0 e1
  have t0 := trod_func' (show DataW.trod _ Tryd.prog W 0 (fun _ => true) true m 124 [u0] = some x0 from e0)
  have t1 := trod_func' (show DataW.trod _ Tryd.prog W 0 (fun _ => true) true m 124 [u1] = some x1 from e1)
  have hx0 : (DataW.agg [.held canBytes, .held mustBytes] : DataW (List UInt8)) = .agg [x0.1, x1.1] := congrArg Prod.fst hx
  simp only [DataW.agg.injEq, List.cons.injEq, and_true] at hx0
  rw [← hx0.1] at t0
  rw [← hx0.2] at t1
  have v0 : u0 = .func (.func 131) #[] #[] := token_can (by rcases t0 with h | h; cases h; rw [← canBytes_eq]; exact (DataW.held.inj h).symm)
  have v1 : u1 = .func (.func 133) #[] #[] := token_must (by rcases t1 with h | h; cases h; rw [← mustBytes_eq]; exact (DataW.held.inj h).symm)
  have c0 := World.var?_cell gn1 hv 0
  have c1 := World.var?_cell gn1 hv 1
  rw [v0] at c0
  rw [v1] at c1
  exact ⟨by simpa using c0, by simpa using c1⟩
set_option maxRecDepth 100000 in
theorem nowhere_of {W : World} (h : laidMet Tryd.prog [("skewbald/plank.nowhere", .agg [.lit (.int .i64 (-1)), .lit (.int .i64 (-1)), .lit (.int .i64 (-1))])] W) :
    W.cell? ⟨0, 0, none⟩ = some (.int .i64 (-1)) ∧ W.cell? ⟨0, 1, none⟩ = some (.int .i64 (-1)) ∧ W.cell? ⟨0, 2, none⟩ = some (.int .i64 (-1)) := by
  obtain ⟨ps, ⟨g, t, cs, fuel, p, q, hg, ht, hv, htr, _, _⟩, _⟩ := h
  obtain rfl := Option.some.inj (gn2.symm.trans hg)
  obtain rfl := Option.some.inj (gt2.symm.trans ht)
  obtain ⟨xs, m, _, hx, hlen, hxl, hel⟩ := DataW.trod_struct Tryd.underlying87 htr
  have hc3 : Tryd.prog.cellsOf 87 = 3 := by kernel_rfl
  have hc1 : Tryd.prog.cellsOf 3 = 1 := by kernel_rfl
  rw [hc3] at hlen
  obtain ⟨u0, u1, u2, rfl⟩ := arr3 hlen
  obtain ⟨x0, x1, x2, rfl⟩ := list3 hxl
  have e0 := hel 0 _ rfl
  have e1 := hel 1 _ rfl
  have e2 := hel 2 _ rfl
  simp only [hc1] at e0 e1 e2
  obtain ⟨n0, h0, y0, _⟩ := DataW.trod_int Tryd.underlying3 (show DataW.trod _ Tryd.prog W 0 (fun _ => true) false m 3 [u0] = some x0 from e0)
  obtain ⟨n1, h1, y1, _⟩ := DataW.trod_int Tryd.underlying3 (show DataW.trod _ Tryd.prog W 0 (fun _ => true) false m 3 [u1] = some x1 from e1)
  obtain ⟨n2, h2, y2, _⟩ := DataW.trod_int Tryd.underlying3 (show DataW.trod _ Tryd.prog W 0 (fun _ => true) false m 3 [u2] = some x2 from e2)
  subst y0 y1 y2
  have hx0 : (DataW.agg [.lit (.int .i64 (-1)), .lit (.int .i64 (-1)), .lit (.int .i64 (-1))] : DataW Unit) = .agg [.lit (.int .i64 n0), .lit (.int .i64 n1), .lit (.int .i64 n2)] := congrArg Prod.fst hx
  simp only [DataW.agg.injEq, List.cons.injEq, and_true, DataW.lit.injEq, Lit.int.injEq, true_and] at hx0
  obtain ⟨rfl, rfl, rfl⟩ := hx0
  simp only [List.cons.injEq, and_true] at h0 h1 h2
  subst h0 h1 h2
  have c0 := World.var?_cell gn2 hv 0
  have c1 := World.var?_cell gn2 hv 1
  have c2 := World.var?_cell gn2 hv 2
  exact ⟨by simpa using c0, by simpa using c1, by simpa using c2⟩
theorem laid_data {P : Program} {l : List (String × DataW Unit)} {w : World} (h : laidMetH P l w) {x : String × DataW Unit} (hx : x ∈ l) (hs : x.2.handleName?.isSome = true) : laidMet P (l.filter fun x => x.2.handleName?.isNone) w := by
  have hm : x ∈ l.filter fun x => x.2.handleName?.isSome := List.mem_filter.2 ⟨hx, hs⟩
  unfold laidMetH at h
  generalize (l.filter fun x => x.2.handleName?.isSome) = fl at h hm
  cases fl with
  | nil => cases hm
  | cons a bs => exact h.1
theorem glob_of {l : List (String × DataW Unit)} {W : World} (hx : ("skewbald/plank.hits", Rows.laid_skewbald_plank_hits) ∈ l) (hf : (l.filter fun x => x.2.handleName?.isNone) = [("skewbald/plank.nowhere", Rows.laid_skewbald_plank_nowhere)]) (h : laidMetH Tryd.prog l W) : Glob W := by
  have h1 := hits_of (laidMetH.funcs h hx)
  have h2 := laid_data h hx rfl
  rw [hf] at h2
  have h3 := nowhere_of h2
  exact ⟨h1.1, h1.2, h3.1, h3.2.1, h3.2.2⟩
open Go.Proofs.YtekjlpldooihhaaDoor.PA (S48 S50 S60 k48 k50 k60)
def wfSpan (s : S60) : Prop := (Lit.int .i64 s.f0).wf = true ∧ (Lit.int .i64 s.f1).wf = true
def wfWood (y : S48) : Prop := (Lit.int .i64 y.f0).wf = true ∧ ∀ s ∈ y.f1, wfSpan s
def wfShape (x : S50) : Prop := (Lit.int .i64 x.f0).wf = true ∧ (∀ n ∈ x.f1, (Lit.int .i64 n).wf = true) ∧ True
theorem opens_span {H : Type} {enc : TypeId × Value → H} {W : World} : Opens enc Tryd.prog W 60 k60 wfSpan :=
  opens_iso (fun y => ⟨y.1, y.2⟩) (fun _ => rfl) (opens_two Tryd.underlying60 (by kernel_rfl) (by kernel_rfl) rfl rfl (opens_int Tryd.underlying3 (by kernel_rfl)) (opens_int Tryd.underlying3 (by kernel_rfl)))
theorem opens_wood {H : Type} {enc : TypeId × Value → H} {W : World} : Opens enc Tryd.prog W 48 k48 wfWood :=
  opens_iso (fun y => ⟨y.1, y.2⟩) (fun _ => rfl) (opens_two Tryd.underlying48 (by kernel_rfl) (by kernel_rfl) rfl rfl (opens_int Tryd.underlying3 (by kernel_rfl)) (opens_slice Tryd.underlying46 (by kernel_rfl) opens_span))
theorem opens_shape {H : Type} {enc : TypeId × Value → H} {W : World} : Opens enc Tryd.prog W 50 k50 wfShape :=
  opens_iso (fun y => ⟨y.1, y.2.1, y.2.2⟩) (fun _ => rfl) (opens_three Tryd.underlying50 (by kernel_rfl) (by kernel_rfl) rfl rfl rfl (opens_int Tryd.underlying3 (by kernel_rfl)) (opens_slice Tryd.underlying31 (by kernel_rfl) (opens_int Tryd.underlying3 (by kernel_rfl))) (opens_bool Tryd.underlying4 (by kernel_rfl)))
end Go.Proofs.YtekjlpldooihhaaDoorP
namespace Go.Proofs.YtekjlpldooihhaaDoorP
open Go.Proofs.YtekjlpldooihhaaDoorSh
open Go.RowKit Go.Proofs.YtekjlpldooihhaaDoorW.PrintWords Go.Proofs.YtekjlpldooihhaaDoorW.PrintLast Go.Proofs.YtekjlpldooihhaaDoorW.PrintMore Go.Proofs.YtekjlpldooihhaaDoorH Go.Proofs.YtekjlpldooihhaaDoorEv Go.Proofs.YtekjlpldooihhaaDoor.PA
set_option linter.unusedVariables false
set_option linter.unusedSimpArgs false
structure Sized (y : S48) (x : S50) : Prop where
  w1 : 1 ≤ y.f0
  w16 : y.f0 ≤ 16
  s1 : 1 ≤ x.f0
  s12 : x.f0 ≤ 12
set_option maxRecDepth 100000 in
set_option maxHeartbeats 1000000 in
theorem calls_lies (PA : Option Addr) (pc : Nat) (QA : Option Addr) (qc m : Nat) (P : List S48) (Q : List S50) (i p : Nat) (a : Int) (hi : i < P.length) (hp : p < Q.length) (hz : Sized (P.getD i z48) (Q.getD p z50)) (w : World) (hP : Kd.C k48 w PA P.length P) (hQ : Kd.C k50 w QA Q.length Q) :
    Calls Tryd.prog 63 #[.agg (bookV PA P.length pc QA Q.length qc m), .agg #[.int .i64 i, .int .i64 p, .int .i64 a]] w fun e w' =>
      e = .returned (.bool (liesB (P.getD i z48) (Q.getD p z50) a)) ∧ Below w.heap.size w w' := by
  obtain ⟨n0, n1, n2, n3⟩ := new2 w (.cells #[.slice PA P.length pc, .slice QA Q.length qc, .map (some m)] 84) (.cells #[.int .i64 i, .int .i64 p, .int .i64 a] 87)
  obtain ⟨pa, B1, d1, rfl, e0, -, -, -⟩ := at_wood hP i hi
  obtain ⟨qa, B2, d2, rfl, f0, -, -, -, -⟩ := at_shape hQ p hp
  obtain ⟨y, hy⟩ : ∃ y, P.getD i z48 = y := ⟨_, rfl⟩
  obtain ⟨x, hx⟩ : ∃ x, Q.getD p z50 = x := ⟨_, rfl⟩
  rw [hy] at e0 hz ⊢
  rw [hx] at f0 hz ⊢
  obtain ⟨z1, z2, z3, z4⟩ := hz
  obtain ⟨a0, a1, b0, b1, b2⟩ : ((w.alloc (.cells #[.slice (some pa) P.length pc, .slice (some qa) Q.length qc, .map (some m)] 84)).alloc (.cells #[.int .i64 i, .int .i64 p, .int .i64 a] 87)).cell? ⟨w.heap.size, 0, none⟩ = some (.slice (some pa) P.length pc) ∧ ((w.alloc (.cells #[.slice (some pa) P.length pc, .slice (some qa) Q.length qc, .map (some m)] 84)).alloc (.cells #[.int .i64 i, .int .i64 p, .int .i64 a] 87)).cell? ⟨w.heap.size, 1, none⟩ = some (.slice (some qa) Q.length qc) ∧ ((w.alloc (.cells #[.slice (some pa) P.length pc, .slice (some qa) Q.length qc, .map (some m)] 84)).alloc (.cells #[.int .i64 i, .int .i64 p, .int .i64 a] 87)).cell? ⟨w.heap.size + 1, 0, none⟩ = some (.int .i64 i) ∧ ((w.alloc (.cells #[.slice (some pa) P.length pc, .slice (some qa) Q.length qc, .map (some m)] 84)).alloc (.cells #[.int .i64 i, .int .i64 p, .int .i64 a] 87)).cell? ⟨w.heap.size + 1, 1, none⟩ = some (.int .i64 p) ∧ ((w.alloc (.cells #[.slice (some pa) P.length pc, .slice (some qa) Q.length qc, .map (some m)] 84)).alloc (.cells #[.int .i64 i, .int .i64 p, .int .i64 a] 87)).cell? ⟨w.heap.size + 1, 2, none⟩ = some (.int .i64 a) := ⟨blk_cell n0 0, blk_cell n0 1, blk_cell n1 0, blk_cell n1 1, blk_cell n1 2⟩
  have c0 := pw_cell_below n2 e0; have c1 := pw_cell_below n2 f0
  have HB := Lib.hid n2
  have hi2 : (i : Int) < (P.length : Int) := by omega
  have hp2 : (p : Int) < (Q.length : Int) := by omega
  have hw : wrap64 (y.f0 - x.f0) = y.f0 - x.f0 := by unfold wrap64; omega
  clear n0 n1 n2 n3 e0 f0 hP hQ hx hy
  obtain ⟨Y, hY⟩ : ∃ Y, y.f0 = Y := ⟨_, rfl⟩
  obtain ⟨X, hX⟩ : ∃ X, x.f0 = X := ⟨_, rfl⟩
  unfold liesB
  rw [hY] at c0 z1 z2 hw ⊢
  rw [hX] at c1 z3 z4 hw ⊢
  clear hY hX
  go_enter Tryd.func63, Tryd.ntmps63
  unfold bookV
  go_wp2_with fail
  refine start_ (n := 21) (S := fun w' => w'.cell? ⟨w.heap.size, 0, none⟩ = some (.slice (some pa) P.length pc) ∧ w'.cell? ⟨w.heap.size, 1, none⟩ = some (.slice (some qa) Q.length qc) ∧ w'.cell? ⟨w.heap.size + 1, 0, none⟩ = some (.int .i64 i) ∧ w'.cell? ⟨w.heap.size + 1, 1, none⟩ = some (.int .i64 p) ∧ w'.cell? ⟨w.heap.size + 1, 2, none⟩ = some (.int .i64 a) ∧ w'.cell? (pa.add (i * 2)) = some (.int .i64 Y) ∧ w'.cell? (qa.add (p * 3)) = some (.int .i64 X)) (ds := [19]) #[false, false, false, false, false, false, false, false, false, false, false, false, false, false, false, false, false, false, false, false, false] (by kernel_rfl) rfl rfl ⟨a0, a1, b0, b1, b2, c0, c1⟩ (fun hHeld => ?_)
  refine pu_ (i := 0) (N := some 5) (qa_ 21 1) ?_
  refine pu_ (i := 2) (N := some 7) (qa_ 21 5) ?_
  refine pu_ (i := 3) (N := some 8) (qa_ 21 13) ?_
  refine pu_ (i := 5) (N := some 10) (qa_ 21 45) ?_
  refine pu_ (i := 10) (N := some 15) (qa_ 21 1069) ?_
  refine pu_ (i := 11) (N := some 16) (qa_ 21 3117) ?_
  refine pu_ (i := 13) (N := some 18) (qa_ 21 11309) ?_
  refine tk_ (i := 1) (N := some 6) (qa_ 21 11311) hHeld ?_
  refine tk_ (i := 4) (N := some 9) (qa_ 21 11327) hHeld ?_
  refine tk_ (i := 6) (N := some 11) (qa_ 21 11391) hHeld ?_
  refine pu_ (i := 7) (N := some 12) (qa_ 21 11519) ?_
  refine pu_ (i := 8) (N := some 13) (qa_ 21 11775) ?_
  refine tk_ (i := 9) (N := some 14) (qa_ 21 12287) hHeld ?_
  refine tk_ (i := 12) (N := some 17) (qa_ 21 16383) hHeld ?_
  refine tk_ (i := 14) (N := some 19) (qa_ 21 32767) hHeld ?_
  refine pu_ (i := 15) (N := some 20) (qa_ 21 65535) ?_
  refine pu_ (i := 16) (N := some 21) (qa_ 21 131071) ?_
  refine tk_ (i := 17) (N := some 22) (qa_ 21 262143) hHeld ?_
  refine pu_ (i := 18) (N := some 23) (qa_ 21 524287) ?_
  refine last_ (i := 19) (N := some 24) (qa_ 21 1048575) rfl rfl (by kernel_rfl) (by decide) (fun K hK => ?_)
  refine goes_ Tryd.func70 (by kernel_rfl) rfl #[.int .i64 a, .int .i64 0, .int .i64 (wrap64 (Y - X))] (by rfl) rfl rfl (by first | (simp; done) | (simp only [List.map_toArray, List.map_cons, List.map_nil]; rfl)) ?_
  with_reducible refine (calls_on _ _ _ _).mono ?_
  rintro e w1 ⟨rfl, hb1⟩
  refine ⟨_, rfl, ?_⟩
  refine hK.out _ _ ?_
  clear hK K
  refine nm_ (some 24) ?_
  refine pu_ (i := 20) (N := some 4) (qa_ 21 2097151) ?_
  refine done_ (by kernel_rfl) ?_
  go_wp2_with fail
  go_ret
  exact ⟨by first | (rw [hw]; rfl) | (rw [← hw]; rfl) | simp [hw], HB.out.trans ((undrew hb1).mono (by simp; omega))⟩
theorem ite2_0 {c : Nat} {A B : Bool} (h : c = if A = true then 2 else if B = true then 1 else 0) (ha : A = true) : c = 2 := by rw [h, ha]; rfl
theorem ite2_1 {c : Nat} {A B : Bool} (h : c = if A = true then 2 else if B = true then 1 else 0) (ha : A = false) (hb : B = true) : c = 1 := by rw [h, ha, hb]; rfl
theorem ite2_2 {c : Nat} {A B : Bool} (h : c = if A = true then 2 else if B = true then 1 else 0) (ha : A = false) (hb : B = false) : c = 0 := by rw [h, ha, hb]; rfl
theorem hit_k0 : Hit 131 (hbK 0) := hit_can
theorem hit_k1 : Hit 133 (hbK 1) := hit_must
set_option maxRecDepth 100000 in
set_option maxHeartbeats 2000000 in
theorem calls_bcan (PA : Option Addr) (pc : Nat) (QA : Option Addr) (qc m : Nat) (P : List S48) (Q : List S50) (i p a : Nat) (hi : i < P.length) (hp : p < Q.length) (hy : WoodOk (P.getD i z48)) (hx : Fits (Q.getD p z50) a) (w : World) (hB : Bk PA QA m P Q w) :
    Calls Tryd.prog 64 #[.agg (bookV PA P.length pc QA Q.length qc m), .agg #[.int .i64 i, .int .i64 p, .int .i64 a]] w fun e w' =>
      e = .returned (.int .i64 (canN (P.getD i z48) (Q.getD p z50) a : Nat)) ∧ Bk PA QA m P Q w' ∧ w.grownBy w' (some m) := by
  have hB0 := hB
  obtain ⟨hG, hP, hQ, f, hM, hf⟩ := hB
  obtain ⟨pa, B1, d1, rfl, -, -, -, -⟩ := at_wood hP i hi
  obtain ⟨qa, B2, d2, rfl, -, -, e2, -, -⟩ := at_shape hQ p hp
  have hmlt : m < w.heap.size := hM.lt
  have hlk := fun W (h : MapFn 3 W m f) => run_lookup_fn 82 3 Tryd.underlying82 spotKey (z := .int .i64 0) (fun w => by kernel_rfl) h [(i : Int), (p : Int), (a : Int)] rfl true
  have heq : ∀ W, (Op.equalIn 10000 87 (.agg #[.int .i64 i, .int .i64 p, .int .i64 a]) (.agg #[.int .i64 (-1), .int .i64 (-1), .int .i64 (-1)])).run Tryd.prog W = .ok false W := fun W => (eqSpot 9998 W _ _ _ _ _ _).trans (by
    have : ((i : Int) == -1) = false := by simp
    rw [this, Bool.false_and])
  obtain ⟨n0, n1, n2, n3⟩ := new2 w (.cells #[.slice (some pa) P.length pc, .slice (some qa) Q.length qc, .map (some m)] 84) (.cells #[.int .i64 i, .int .i64 p, .int .i64 a] 87)
  have hMW := hM.below n2
  obtain ⟨hn0, hn1, hn2⟩ : w.cell? ⟨0, 0, none⟩ = some (.int .i64 (-1)) ∧ w.cell? ⟨0, 1, none⟩ = some (.int .i64 (-1)) ∧ w.cell? ⟨0, 2, none⟩ = some (.int .i64 (-1)) := ⟨hG.no0, hG.no1, hG.no2⟩
  have hlt : 0 < w.heap.size := World.block_lt_of_cell? w _ hn0
  have hlt1 : 0 < w.heap.size + 1 := by omega
  have hl2 := hlk _ hMW
  clear hlk
  have HX := Lib.hid n0; have HS := Lib.hid n1; have HB := Lib.hid n2
  have HG := Lib.hid hG; have HP := Lib.hid hP; have HQ := Lib.hid hQ; have HM := Lib.hid hM; have HF := Lib.hid hf; have HMW := Lib.hid hMW; have HY := Lib.hid hy; have HX0 := Lib.hid hx; have HE := Lib.hid e2; have HB0 := Lib.hid hB0
  clear n0 n1 n2 hG hP hQ hM hf hMW hy hx e2 hB0
  cases hfk : f [(i : Int), (p : Int), (a : Int)] with
  | some v =>
    obtain rfl := HF.out i p a v hfk
    rw [hfk] at hl2
    clear hfk
    have hl3 : (Instr.lookup 82 (.map (some m)) (.agg #[.int .i64 i, .int .i64 p, .int .i64 a]) true).run Tryd.prog ((w.alloc (.cells #[.slice (some pa) P.length pc, .slice (some qa) Q.length qc, .map (some m)] 84)).alloc (.cells #[.int .i64 i, .int .i64 p, .int .i64 a] 87)) = .ok (.tuple #[.int .i64 (canN (P.getD i z48) (Q.getD p z50) a : Nat), .bool true]) ((w.alloc (.cells #[.slice (some pa) P.length pc, .slice (some qa) Q.length qc, .map (some m)] 84)).alloc (.cells #[.int .i64 i, .int .i64 p, .int .i64 a] 87)) := hl2
    clear hl2
    generalize (canN (P.getD i z48) (Q.getD p z50) a) = cn at hl3 ⊢
    go_enter Tryd.func64, Tryd.ntmps64
    unfold bookV
    go_wp2
    go_ret
    exact ⟨rfl, HB0.out.below HB.out, grown_of_below HB.out _⟩
  | none =>
    rw [hfk] at hl2
    clear hfk
    have hl3 : (Instr.lookup 82 (.map (some m)) (.agg #[.int .i64 i, .int .i64 p, .int .i64 a]) true).run Tryd.prog ((w.alloc (.cells #[.slice (some pa) P.length pc, .slice (some qa) Q.length qc, .map (some m)] 84)).alloc (.cells #[.int .i64 i, .int .i64 p, .int .i64 a] 87)) = .ok (.tuple #[.int .i64 0, .bool false]) ((w.alloc (.cells #[.slice (some pa) P.length pc, .slice (some qa) Q.length qc, .map (some m)] 84)).alloc (.cells #[.int .i64 i, .int .i64 p, .int .i64 a] 87)) := hl2
    clear hl2
    have HC0 := Lib.hid (show canN (P.getD i z48) (Q.getD p z50) a = (if okB (P.getD i z48) (Q.getD p z50) a 0 then 2 else if okB (P.getD i z48) (Q.getD p z50) a 1 then 1 else 0) from rfl)
    obtain ⟨cn, hcn⟩ : ∃ cn, canN (P.getD i z48) (Q.getD p z50) a = cn := ⟨_, rfl⟩
    have HCN := Lib.hid hcn
    rw [hcn] at HC0 ⊢
    clear hcn
    have HMU := Lib.hid (show ∀ (W : World), Below w.heap.size w W → ∀ n : Int, ∃ w1, (Instr.mapUpdate 82 (.map (some m)) (.agg #[.int .i64 i, .int .i64 p, .int .i64 a]) (.int .i64 n)).run Tryd.prog W = .ok () w1 ∧ MapFn 3 w1 m (fun ls => if ls = [(i : Int), (p : Int), (a : Int)] then some (.int .i64 n) else f ls) ∧ W.grownBy w1 (some m) from fun W hb n => run_mapUpdate_fn 82 3 Tryd.underlying82 spotKey (HM.out.below hb) [(i : Int), (p : Int), (a : Int)] rfl (.int .i64 n))
    have HEND := Lib.hid (show ∀ (W w9 : World), Below w.heap.size w W → MapFn 3 w9 m (fun ls => if ls = [(i : Int), (p : Int), (a : Int)] then some (.int .i64 (cn : Nat)) else f ls) → W.grownBy w9 (some m) → Bk (some pa) (some qa) m P Q w9 ∧ w.grownBy w9 (some m) from fun W w9 hb hM9 hg => by
      have hbw := HB0.out.below hb
      have hc := grown_cells hbw.is hg
      refine ⟨⟨hbw.glob.cells hc, C_keeps keeps_wood hc hbw.planks, C_keeps keeps_shape hc hbw.parts, _, hM9, ?_⟩, grown_trans (grown_of_below hb _) hg⟩
      intro i' p' a' v hv
      simp only [List.cons.injEq, and_true] at hv
      split at hv
      · rename_i he
        obtain ⟨e1, e2, e3⟩ := he
        obtain rfl : i' = i := by omega
        obtain rfl : p' = p := by omega
        obtain rfl : a' = a := by omega
        rw [HCN.out]
        exact (Option.some.inj hv).symm
      · exact HF.out i' p' a' v hv)
    go_enter Tryd.func64, Tryd.ntmps64
    unfold bookV
    obtain ⟨gl0, gl1⟩ : w.cell? ⟨1, 0, none⟩ = some (.func (.func 131) #[] #[]) ∧ w.cell? ⟨1, 1, none⟩ = some (.func (.func 133) #[] #[]) := ⟨HG.out.can, HG.out.must⟩
    have hglt : 1 < w.heap.size := World.block_lt_of_cell? w _ gl0
    have hglt1 : 1 < w.heap.size + 1 := by omega
    go_wp2_with fail
    obtain ⟨n0, n1, n2, n3⟩ := new2 w (.cells #[.slice (some pa) P.length pc, .slice (some qa) Q.length qc, .map (some m)] 84) (.cells #[.int .i64 i, .int .i64 p, .int .i64 a] 87)
    have hix0 : ∀ W, (Instr.index 125 (.agg #[.func (.func 131) #[] #[], .func (.func 133) #[] #[]]) (.int .i64 0)).run Tryd.prog W = .ok (.func (.func 131) #[] #[]) W := fun W => by kernel_rfl
    have hix1 : ∀ W, (Instr.index 125 (.agg #[.func (.func 131) #[] #[], .func (.func 133) #[] #[]]) (.int .i64 1)).run Tryd.prog W = .ok (.func (.func 133) #[] #[]) W := fun W => by kernel_rfl
    clear n0 n1 n2 hl3 HMW heq hn0 hn1 hn2 gl0 gl1
    go_loopw [5, 24] (fun v5 v wr => v5 = .int .i64 0 ∧ (v = .int .i64 0 ∨ (v = .int .i64 1 ∧ Hid (okB (P.getD i z48) (Q.getD p z50) a 0 = false)) ∨ (v = .int .i64 2 ∧ Hid (okB (P.getD i z48) (Q.getD p z50) a 0 = false) ∧ Hid (okB (P.getD i z48) (Q.getD p z50) a 1 = false))) ∧ Hid (wr.heap[w.heap.size]? = some (.cells #[.slice (some pa) P.length pc, .slice (some qa) Q.length qc, .map (some m)] 84 (0, 0))) ∧ Hid (wr.heap[w.heap.size + 1]? = some (.cells #[.int .i64 i, .int .i64 p, .int .i64 a] 87 (0, 0))) ∧ Hid (Below w.heap.size w wr)) (fun _ v _ => 2 - (intOf v).toNat)
    case atStart => exact ⟨rfl, .inl rfl, HX, HS, HB⟩
    case round =>
      clear HX HS HB n3
      obtain ⟨rfl, hv, HX, HS, HB⟩ := hrel
      obtain ⟨c0, c1, c2⟩ : wr.cell? ⟨w.heap.size, 0, none⟩ = some (.slice (some pa) P.length pc) ∧ wr.cell? ⟨w.heap.size, 1, none⟩ = some (.slice (some qa) Q.length qc) ∧ wr.cell? ⟨w.heap.size, 2, none⟩ = some (.map (some m)) := ⟨blk_cell HX.out 0, blk_cell HX.out 1, blk_cell HX.out 2⟩
      obtain ⟨t0, t1, t2⟩ : wr.cell? ⟨w.heap.size + 1, 0, none⟩ = some (.int .i64 i) ∧ wr.cell? ⟨w.heap.size + 1, 1, none⟩ = some (.int .i64 p) ∧ wr.cell? ⟨w.heap.size + 1, 2, none⟩ = some (.int .i64 a) := ⟨blk_cell HS.out 0, blk_cell HS.out 1, blk_cell HS.out 2⟩
      have c3 := pw_cell_below HB.out HE.out
      rcases hv with rfl | ⟨rfl, HN0⟩ | ⟨rfl, HN0, HN1⟩
      · have hok : okB (P.getD i z48) (Q.getD p z50) a 0 = (soundB (P.getD i z48) (Q.getD p z50) a false (hbK 0) || ((Q.getD p z50).f2 && soundB (P.getD i z48) (Q.getD p z50) a true (hbK 0))) := rfl
        have HCfalse := Lib.hid (show ∀ W, Below w.heap.size w W → Calls Tryd.prog 98 #[.agg #[.slice (some pa) P.length pc, .slice (some qa) Q.length qc, .map (some m)], .agg #[.int .i64 i, .int .i64 p, .int .i64 a], .bool false, .func (.func 131) #[] #[]] W fun e w' => e = .returned (.bool (soundB (P.getD i z48) (Q.getD p z50) a false (hbK 0))) ∧ Below W.heap.size W w' from fun W hb => calls_sound (some pa) pc (some qa) qc m P Q i p a false 131 (hbK 0) hit_k0 hi hp HY.out HX0.out _ (Kd.C_below HP.out hb) (Kd.C_below HQ.out hb))
        have HCtrue := Lib.hid (show ∀ W, Below w.heap.size w W → Calls Tryd.prog 98 #[.agg #[.slice (some pa) P.length pc, .slice (some qa) Q.length qc, .map (some m)], .agg #[.int .i64 i, .int .i64 p, .int .i64 a], .bool true, .func (.func 131) #[] #[]] W fun e w' => e = .returned (.bool (soundB (P.getD i z48) (Q.getD p z50) a true (hbK 0))) ∧ Below W.heap.size W w' from fun W hb => calls_sound (some pa) pc (some qa) qc m P Q i p a true 131 (hbK 0) hit_k0 hi hp HY.out HX0.out _ (Kd.C_below HP.out hb) (Kd.C_below HQ.out hb))
        cases hA : soundB (P.getD i z48) (Q.getD p z50) a false (hbK 0) with
        | true =>
          have HOK := Lib.hid (show okB (P.getD i z48) (Q.getD p z50) a 0 = true by rw [hok, hA, Bool.true_or])
          clear hok
          go_wp2_with (go_at_call 98; (with_reducible refine (HCfalse.out _ HB.out).mono ?_); rintro e w1 ⟨he, hb⟩; rw [hA] at he; subst he; have HX := Lib.hid (below_far HX.out hb); have HS := Lib.hid (below_far HS.out hb); have HB := Lib.hid (HB.out.trans (hb.mono (below_size HB.out))); clear hb; obtain ⟨c0, c1, c2⟩ : w1.cell? ⟨w.heap.size, 0, none⟩ = some (.slice (some pa) P.length pc) ∧ w1.cell? ⟨w.heap.size, 1, none⟩ = some (.slice (some qa) Q.length qc) ∧ w1.cell? ⟨w.heap.size, 2, none⟩ = some (.map (some m)) := ⟨blk_cell HX.out 0, blk_cell HX.out 1, blk_cell HX.out 2⟩; obtain ⟨t0, t1, t2⟩ : w1.cell? ⟨w.heap.size + 1, 0, none⟩ = some (.int .i64 i) ∧ w1.cell? ⟨w.heap.size + 1, 1, none⟩ = some (.int .i64 p) ∧ w1.cell? ⟨w.heap.size + 1, 2, none⟩ = some (.int .i64 a) := ⟨blk_cell HS.out 0, blk_cell HS.out 1, blk_cell HS.out 2⟩; have c3 := pw_cell_below HB.out HE.out; obtain ⟨w9, hmu, hM9, hg9⟩ := HMU.out w1 HB.out 2; have HM9 := Lib.hid hM9; have HG9 := Lib.hid hg9; clear hM9 hg9)
          go_ret
          have hcn : cn = 2 := ite2_0 HC0.out HOK.out
          rw [hcn] at HEND ⊢
          exact ⟨rfl, HEND.out _ _ HB.out HM9.out HG9.out⟩
        | false =>
          rw [hA, Bool.false_or] at hok
          cases hT : (Q.getD p z50).f2 with
          | false =>
            have HOK := Lib.hid (show okB (P.getD i z48) (Q.getD p z50) a 0 = false by rw [hok, hT, Bool.false_and])
            rw [hT] at HE c3
            clear hok
            go_wp2_with (go_at_call 98; (with_reducible refine (HCfalse.out _ HB.out).mono ?_); rintro e w1 ⟨he, hb⟩; rw [hA] at he; subst he; have HX := Lib.hid (below_far HX.out hb); have HS := Lib.hid (below_far HS.out hb); have HB := Lib.hid (HB.out.trans (hb.mono (below_size HB.out))); clear hb; obtain ⟨c0, c1, c2⟩ : w1.cell? ⟨w.heap.size, 0, none⟩ = some (.slice (some pa) P.length pc) ∧ w1.cell? ⟨w.heap.size, 1, none⟩ = some (.slice (some qa) Q.length qc) ∧ w1.cell? ⟨w.heap.size, 2, none⟩ = some (.map (some m)) := ⟨blk_cell HX.out 0, blk_cell HX.out 1, blk_cell HX.out 2⟩; obtain ⟨t0, t1, t2⟩ : w1.cell? ⟨w.heap.size + 1, 0, none⟩ = some (.int .i64 i) ∧ w1.cell? ⟨w.heap.size + 1, 1, none⟩ = some (.int .i64 p) ∧ w1.cell? ⟨w.heap.size + 1, 2, none⟩ = some (.int .i64 a) := ⟨blk_cell HS.out 0, blk_cell HS.out 1, blk_cell HS.out 2⟩; have c3 := pw_cell_below HB.out HE.out)
            go_roundw
            case rel => exact ⟨rfl, .inr (.inl ⟨by go_num, HOK⟩), HX, HS, HB⟩
            case measure => simp [intOf]
          | true =>
            rw [hT, Bool.true_and] at hok
            rw [hT] at HE c3
            cases hC : soundB (P.getD i z48) (Q.getD p z50) a true (hbK 0) with
            | true =>
              have HOK := Lib.hid (hok.trans hC)
              clear hok
              go_wp2_with (first | (go_at_call 98; (with_reducible refine (HCfalse.out _ HB.out).mono ?_); rintro e w1 ⟨he, hb⟩; rw [hA] at he; subst he; have HX := Lib.hid (below_far HX.out hb); have HS := Lib.hid (below_far HS.out hb); have HB := Lib.hid (HB.out.trans (hb.mono (below_size HB.out))); clear hb; obtain ⟨c0, c1, c2⟩ : w1.cell? ⟨w.heap.size, 0, none⟩ = some (.slice (some pa) P.length pc) ∧ w1.cell? ⟨w.heap.size, 1, none⟩ = some (.slice (some qa) Q.length qc) ∧ w1.cell? ⟨w.heap.size, 2, none⟩ = some (.map (some m)) := ⟨blk_cell HX.out 0, blk_cell HX.out 1, blk_cell HX.out 2⟩; obtain ⟨t0, t1, t2⟩ : w1.cell? ⟨w.heap.size + 1, 0, none⟩ = some (.int .i64 i) ∧ w1.cell? ⟨w.heap.size + 1, 1, none⟩ = some (.int .i64 p) ∧ w1.cell? ⟨w.heap.size + 1, 2, none⟩ = some (.int .i64 a) := ⟨blk_cell HS.out 0, blk_cell HS.out 1, blk_cell HS.out 2⟩; have c3 := pw_cell_below HB.out HE.out) | (go_at_call 98; (with_reducible refine (HCtrue.out _ HB.out).mono ?_); rintro e w2 ⟨he, hb⟩; rw [hC] at he; subst he; have HX := Lib.hid (below_far HX.out hb); have HS := Lib.hid (below_far HS.out hb); have HB := Lib.hid (HB.out.trans (hb.mono (below_size HB.out))); clear hb; obtain ⟨c0, c1, c2⟩ : w2.cell? ⟨w.heap.size, 0, none⟩ = some (.slice (some pa) P.length pc) ∧ w2.cell? ⟨w.heap.size, 1, none⟩ = some (.slice (some qa) Q.length qc) ∧ w2.cell? ⟨w.heap.size, 2, none⟩ = some (.map (some m)) := ⟨blk_cell HX.out 0, blk_cell HX.out 1, blk_cell HX.out 2⟩; obtain ⟨t0, t1, t2⟩ : w2.cell? ⟨w.heap.size + 1, 0, none⟩ = some (.int .i64 i) ∧ w2.cell? ⟨w.heap.size + 1, 1, none⟩ = some (.int .i64 p) ∧ w2.cell? ⟨w.heap.size + 1, 2, none⟩ = some (.int .i64 a) := ⟨blk_cell HS.out 0, blk_cell HS.out 1, blk_cell HS.out 2⟩; have c3 := pw_cell_below HB.out HE.out; obtain ⟨w9, hmu, hM9, hg9⟩ := HMU.out w2 HB.out 2; have HM9 := Lib.hid hM9; have HG9 := Lib.hid hg9; clear hM9 hg9))
              go_ret
              have hcn : cn = 2 := ite2_0 HC0.out HOK.out
              rw [hcn] at HEND ⊢
              exact ⟨rfl, HEND.out _ _ HB.out HM9.out HG9.out⟩
            | false =>
              have HOK := Lib.hid (hok.trans hC)
              clear hok
              go_wp2_with (first | (go_at_call 98; (with_reducible refine (HCfalse.out _ HB.out).mono ?_); rintro e w1 ⟨he, hb⟩; rw [hA] at he; subst he; have HX := Lib.hid (below_far HX.out hb); have HS := Lib.hid (below_far HS.out hb); have HB := Lib.hid (HB.out.trans (hb.mono (below_size HB.out))); clear hb; obtain ⟨c0, c1, c2⟩ : w1.cell? ⟨w.heap.size, 0, none⟩ = some (.slice (some pa) P.length pc) ∧ w1.cell? ⟨w.heap.size, 1, none⟩ = some (.slice (some qa) Q.length qc) ∧ w1.cell? ⟨w.heap.size, 2, none⟩ = some (.map (some m)) := ⟨blk_cell HX.out 0, blk_cell HX.out 1, blk_cell HX.out 2⟩; obtain ⟨t0, t1, t2⟩ : w1.cell? ⟨w.heap.size + 1, 0, none⟩ = some (.int .i64 i) ∧ w1.cell? ⟨w.heap.size + 1, 1, none⟩ = some (.int .i64 p) ∧ w1.cell? ⟨w.heap.size + 1, 2, none⟩ = some (.int .i64 a) := ⟨blk_cell HS.out 0, blk_cell HS.out 1, blk_cell HS.out 2⟩; have c3 := pw_cell_below HB.out HE.out) | (go_at_call 98; (with_reducible refine (HCtrue.out _ HB.out).mono ?_); rintro e w2 ⟨he, hb⟩; rw [hC] at he; subst he; have HX := Lib.hid (below_far HX.out hb); have HS := Lib.hid (below_far HS.out hb); have HB := Lib.hid (HB.out.trans (hb.mono (below_size HB.out))); clear hb; obtain ⟨c0, c1, c2⟩ : w2.cell? ⟨w.heap.size, 0, none⟩ = some (.slice (some pa) P.length pc) ∧ w2.cell? ⟨w.heap.size, 1, none⟩ = some (.slice (some qa) Q.length qc) ∧ w2.cell? ⟨w.heap.size, 2, none⟩ = some (.map (some m)) := ⟨blk_cell HX.out 0, blk_cell HX.out 1, blk_cell HX.out 2⟩; obtain ⟨t0, t1, t2⟩ : w2.cell? ⟨w.heap.size + 1, 0, none⟩ = some (.int .i64 i) ∧ w2.cell? ⟨w.heap.size + 1, 1, none⟩ = some (.int .i64 p) ∧ w2.cell? ⟨w.heap.size + 1, 2, none⟩ = some (.int .i64 a) := ⟨blk_cell HS.out 0, blk_cell HS.out 1, blk_cell HS.out 2⟩; have c3 := pw_cell_below HB.out HE.out))
              go_roundw
              case rel => exact ⟨rfl, .inr (.inl ⟨by go_num, HOK⟩), HX, HS, HB⟩
              case measure => simp [intOf]
      · have hok : okB (P.getD i z48) (Q.getD p z50) a 1 = (soundB (P.getD i z48) (Q.getD p z50) a false (hbK 1) || ((Q.getD p z50).f2 && soundB (P.getD i z48) (Q.getD p z50) a true (hbK 1))) := rfl
        have HCfalse := Lib.hid (show ∀ W, Below w.heap.size w W → Calls Tryd.prog 98 #[.agg #[.slice (some pa) P.length pc, .slice (some qa) Q.length qc, .map (some m)], .agg #[.int .i64 i, .int .i64 p, .int .i64 a], .bool false, .func (.func 133) #[] #[]] W fun e w' => e = .returned (.bool (soundB (P.getD i z48) (Q.getD p z50) a false (hbK 1))) ∧ Below W.heap.size W w' from fun W hb => calls_sound (some pa) pc (some qa) qc m P Q i p a false 133 (hbK 1) hit_k1 hi hp HY.out HX0.out _ (Kd.C_below HP.out hb) (Kd.C_below HQ.out hb))
        have HCtrue := Lib.hid (show ∀ W, Below w.heap.size w W → Calls Tryd.prog 98 #[.agg #[.slice (some pa) P.length pc, .slice (some qa) Q.length qc, .map (some m)], .agg #[.int .i64 i, .int .i64 p, .int .i64 a], .bool true, .func (.func 133) #[] #[]] W fun e w' => e = .returned (.bool (soundB (P.getD i z48) (Q.getD p z50) a true (hbK 1))) ∧ Below W.heap.size W w' from fun W hb => calls_sound (some pa) pc (some qa) qc m P Q i p a true 133 (hbK 1) hit_k1 hi hp HY.out HX0.out _ (Kd.C_below HP.out hb) (Kd.C_below HQ.out hb))
        cases hA : soundB (P.getD i z48) (Q.getD p z50) a false (hbK 1) with
        | true =>
          have HOK := Lib.hid (show okB (P.getD i z48) (Q.getD p z50) a 1 = true by rw [hok, hA, Bool.true_or])
          clear hok
          go_wp2_with (go_at_call 98; (with_reducible refine (HCfalse.out _ HB.out).mono ?_); rintro e w1 ⟨he, hb⟩; rw [hA] at he; subst he; have HX := Lib.hid (below_far HX.out hb); have HS := Lib.hid (below_far HS.out hb); have HB := Lib.hid (HB.out.trans (hb.mono (below_size HB.out))); clear hb; obtain ⟨c0, c1, c2⟩ : w1.cell? ⟨w.heap.size, 0, none⟩ = some (.slice (some pa) P.length pc) ∧ w1.cell? ⟨w.heap.size, 1, none⟩ = some (.slice (some qa) Q.length qc) ∧ w1.cell? ⟨w.heap.size, 2, none⟩ = some (.map (some m)) := ⟨blk_cell HX.out 0, blk_cell HX.out 1, blk_cell HX.out 2⟩; obtain ⟨t0, t1, t2⟩ : w1.cell? ⟨w.heap.size + 1, 0, none⟩ = some (.int .i64 i) ∧ w1.cell? ⟨w.heap.size + 1, 1, none⟩ = some (.int .i64 p) ∧ w1.cell? ⟨w.heap.size + 1, 2, none⟩ = some (.int .i64 a) := ⟨blk_cell HS.out 0, blk_cell HS.out 1, blk_cell HS.out 2⟩; have c3 := pw_cell_below HB.out HE.out; obtain ⟨w9, hmu, hM9, hg9⟩ := HMU.out w1 HB.out 1; have HM9 := Lib.hid hM9; have HG9 := Lib.hid hg9; clear hM9 hg9)
          go_ret
          have hcn : cn = 1 := ite2_1 HC0.out HN0.out HOK.out
          rw [hcn] at HEND ⊢
          exact ⟨rfl, HEND.out _ _ HB.out HM9.out HG9.out⟩
        | false =>
          rw [hA, Bool.false_or] at hok
          cases hT : (Q.getD p z50).f2 with
          | false =>
            have HOK := Lib.hid (show okB (P.getD i z48) (Q.getD p z50) a 1 = false by rw [hok, hT, Bool.false_and])
            rw [hT] at HE c3
            clear hok
            go_wp2_with (go_at_call 98; (with_reducible refine (HCfalse.out _ HB.out).mono ?_); rintro e w1 ⟨he, hb⟩; rw [hA] at he; subst he; have HX := Lib.hid (below_far HX.out hb); have HS := Lib.hid (below_far HS.out hb); have HB := Lib.hid (HB.out.trans (hb.mono (below_size HB.out))); clear hb; obtain ⟨c0, c1, c2⟩ : w1.cell? ⟨w.heap.size, 0, none⟩ = some (.slice (some pa) P.length pc) ∧ w1.cell? ⟨w.heap.size, 1, none⟩ = some (.slice (some qa) Q.length qc) ∧ w1.cell? ⟨w.heap.size, 2, none⟩ = some (.map (some m)) := ⟨blk_cell HX.out 0, blk_cell HX.out 1, blk_cell HX.out 2⟩; obtain ⟨t0, t1, t2⟩ : w1.cell? ⟨w.heap.size + 1, 0, none⟩ = some (.int .i64 i) ∧ w1.cell? ⟨w.heap.size + 1, 1, none⟩ = some (.int .i64 p) ∧ w1.cell? ⟨w.heap.size + 1, 2, none⟩ = some (.int .i64 a) := ⟨blk_cell HS.out 0, blk_cell HS.out 1, blk_cell HS.out 2⟩; have c3 := pw_cell_below HB.out HE.out)
            go_roundw
            case rel => exact ⟨rfl, .inr (.inr ⟨by go_num, HN0, HOK⟩), HX, HS, HB⟩
            case measure => simp [intOf]
          | true =>
            rw [hT, Bool.true_and] at hok
            rw [hT] at HE c3
            cases hC : soundB (P.getD i z48) (Q.getD p z50) a true (hbK 1) with
            | true =>
              have HOK := Lib.hid (hok.trans hC)
              clear hok
              go_wp2_with (first | (go_at_call 98; (with_reducible refine (HCfalse.out _ HB.out).mono ?_); rintro e w1 ⟨he, hb⟩; rw [hA] at he; subst he; have HX := Lib.hid (below_far HX.out hb); have HS := Lib.hid (below_far HS.out hb); have HB := Lib.hid (HB.out.trans (hb.mono (below_size HB.out))); clear hb; obtain ⟨c0, c1, c2⟩ : w1.cell? ⟨w.heap.size, 0, none⟩ = some (.slice (some pa) P.length pc) ∧ w1.cell? ⟨w.heap.size, 1, none⟩ = some (.slice (some qa) Q.length qc) ∧ w1.cell? ⟨w.heap.size, 2, none⟩ = some (.map (some m)) := ⟨blk_cell HX.out 0, blk_cell HX.out 1, blk_cell HX.out 2⟩; obtain ⟨t0, t1, t2⟩ : w1.cell? ⟨w.heap.size + 1, 0, none⟩ = some (.int .i64 i) ∧ w1.cell? ⟨w.heap.size + 1, 1, none⟩ = some (.int .i64 p) ∧ w1.cell? ⟨w.heap.size + 1, 2, none⟩ = some (.int .i64 a) := ⟨blk_cell HS.out 0, blk_cell HS.out 1, blk_cell HS.out 2⟩; have c3 := pw_cell_below HB.out HE.out) | (go_at_call 98; (with_reducible refine (HCtrue.out _ HB.out).mono ?_); rintro e w2 ⟨he, hb⟩; rw [hC] at he; subst he; have HX := Lib.hid (below_far HX.out hb); have HS := Lib.hid (below_far HS.out hb); have HB := Lib.hid (HB.out.trans (hb.mono (below_size HB.out))); clear hb; obtain ⟨c0, c1, c2⟩ : w2.cell? ⟨w.heap.size, 0, none⟩ = some (.slice (some pa) P.length pc) ∧ w2.cell? ⟨w.heap.size, 1, none⟩ = some (.slice (some qa) Q.length qc) ∧ w2.cell? ⟨w.heap.size, 2, none⟩ = some (.map (some m)) := ⟨blk_cell HX.out 0, blk_cell HX.out 1, blk_cell HX.out 2⟩; obtain ⟨t0, t1, t2⟩ : w2.cell? ⟨w.heap.size + 1, 0, none⟩ = some (.int .i64 i) ∧ w2.cell? ⟨w.heap.size + 1, 1, none⟩ = some (.int .i64 p) ∧ w2.cell? ⟨w.heap.size + 1, 2, none⟩ = some (.int .i64 a) := ⟨blk_cell HS.out 0, blk_cell HS.out 1, blk_cell HS.out 2⟩; have c3 := pw_cell_below HB.out HE.out; obtain ⟨w9, hmu, hM9, hg9⟩ := HMU.out w2 HB.out 1; have HM9 := Lib.hid hM9; have HG9 := Lib.hid hg9; clear hM9 hg9))
              go_ret
              have hcn : cn = 1 := ite2_1 HC0.out HN0.out HOK.out
              rw [hcn] at HEND ⊢
              exact ⟨rfl, HEND.out _ _ HB.out HM9.out HG9.out⟩
            | false =>
              have HOK := Lib.hid (hok.trans hC)
              clear hok
              go_wp2_with (first | (go_at_call 98; (with_reducible refine (HCfalse.out _ HB.out).mono ?_); rintro e w1 ⟨he, hb⟩; rw [hA] at he; subst he; have HX := Lib.hid (below_far HX.out hb); have HS := Lib.hid (below_far HS.out hb); have HB := Lib.hid (HB.out.trans (hb.mono (below_size HB.out))); clear hb; obtain ⟨c0, c1, c2⟩ : w1.cell? ⟨w.heap.size, 0, none⟩ = some (.slice (some pa) P.length pc) ∧ w1.cell? ⟨w.heap.size, 1, none⟩ = some (.slice (some qa) Q.length qc) ∧ w1.cell? ⟨w.heap.size, 2, none⟩ = some (.map (some m)) := ⟨blk_cell HX.out 0, blk_cell HX.out 1, blk_cell HX.out 2⟩; obtain ⟨t0, t1, t2⟩ : w1.cell? ⟨w.heap.size + 1, 0, none⟩ = some (.int .i64 i) ∧ w1.cell? ⟨w.heap.size + 1, 1, none⟩ = some (.int .i64 p) ∧ w1.cell? ⟨w.heap.size + 1, 2, none⟩ = some (.int .i64 a) := ⟨blk_cell HS.out 0, blk_cell HS.out 1, blk_cell HS.out 2⟩; have c3 := pw_cell_below HB.out HE.out) | (go_at_call 98; (with_reducible refine (HCtrue.out _ HB.out).mono ?_); rintro e w2 ⟨he, hb⟩; rw [hC] at he; subst he; have HX := Lib.hid (below_far HX.out hb); have HS := Lib.hid (below_far HS.out hb); have HB := Lib.hid (HB.out.trans (hb.mono (below_size HB.out))); clear hb; obtain ⟨c0, c1, c2⟩ : w2.cell? ⟨w.heap.size, 0, none⟩ = some (.slice (some pa) P.length pc) ∧ w2.cell? ⟨w.heap.size, 1, none⟩ = some (.slice (some qa) Q.length qc) ∧ w2.cell? ⟨w.heap.size, 2, none⟩ = some (.map (some m)) := ⟨blk_cell HX.out 0, blk_cell HX.out 1, blk_cell HX.out 2⟩; obtain ⟨t0, t1, t2⟩ : w2.cell? ⟨w.heap.size + 1, 0, none⟩ = some (.int .i64 i) ∧ w2.cell? ⟨w.heap.size + 1, 1, none⟩ = some (.int .i64 p) ∧ w2.cell? ⟨w.heap.size + 1, 2, none⟩ = some (.int .i64 a) := ⟨blk_cell HS.out 0, blk_cell HS.out 1, blk_cell HS.out 2⟩; have c3 := pw_cell_below HB.out HE.out))
              go_roundw
              case rel => exact ⟨rfl, .inr (.inr ⟨by go_num, HN0, HOK⟩), HX, HS, HB⟩
              case measure => simp [intOf]
      · obtain ⟨w9, hmu, hM9, hg9⟩ := HMU.out wr HB.out 0
        have HM9 := Lib.hid hM9; have HG9 := Lib.hid hg9
        clear hM9 hg9
        go_wp2_with fail
        go_ret
        have hcn : cn = 0 := ite2_2 HC0.out HN0.out HN1.out
        rw [hcn] at HEND ⊢
        exact ⟨rfl, HEND.out _ _ HB.out HM9.out HG9.out⟩
def initF : List Int → Option Value := fun ks => if ks = [-1, -1, -1] then some (.int .i64 0) else none
theorem memo_init (P : List S48) (Q : List S50) : Memo P Q initF := by
  intro i j k v hv
  simp only [initF] at hv
  split at hv
  · rename_i he
    simp only [List.cons.injEq] at he
    omega
  · cases hv
set_option maxRecDepth 100000 in
set_option maxHeartbeats 800000 in
theorem calls_opened (PA : Option Addr) (pc : Nat) (QA : Option Addr) (qc : Nat) (P : List S48) (Q : List S50) (w : World) (hG : Glob w) (hP : Kd.C k48 w PA P.length P) (hQ : Kd.C k50 w QA Q.length Q) :
    Calls Tryd.prog 60 #[.agg #[.slice PA P.length pc, .slice QA Q.length qc]] w fun e w' => ∃ m, e = .returned (.agg #[.slice PA P.length pc, .slice QA Q.length qc, .map (some m)]) ∧ Bk PA QA m P Q w' ∧ w.heap.size ≤ m ∧ Below w.heap.size w w' := by
  obtain ⟨n0, n1, n2, n3⟩ := new2 w (.cells #[.slice PA P.length pc, .slice QA Q.length qc] 25) (.cells #[.slice none 0 0, .slice none 0 0, .map none] 84)
  go_enter Tryd.func60, Tryd.ntmps60
  go_wp2_with fail
  generalize (w.alloc (.cells #[.slice PA P.length pc, .slice QA Q.length qc] 25)).alloc (.cells #[.slice none 0 0, .slice none 0 0, .map none] 84) = W at n0 n1 n2 n3 ⊢
  obtain ⟨hc0, hc1, hc2⟩ : W.cell? ⟨0, 0, none⟩ = some (.int .i64 (-1)) ∧ W.cell? ⟨0, 1, none⟩ = some (.int .i64 (-1)) ∧ W.cell? ⟨0, 2, none⟩ = some (.int .i64 (-1)) := by have h := hG.below n2; exact ⟨h.no0, h.no1, h.no2⟩
  have hlt : 0 < W.heap.size := World.block_lt_of_cell? W _ hc0
  have hx0 : W.cell? ⟨w.heap.size, 0, none⟩ = some (.slice PA P.length pc) := blk_cell n0 0
  have hx1 : W.cell? ⟨w.heap.size, 1, none⟩ = some (.slice QA Q.length qc) := blk_cell n0 1
  obtain ⟨hy0, hy1, hy2⟩ : W.cell? ⟨w.heap.size + 1, 0, none⟩ = some (.slice none 0 0) ∧ W.cell? ⟨w.heap.size + 1, 1, none⟩ = some (.slice none 0 0) ∧ W.cell? ⟨w.heap.size + 1, 2, none⟩ = some (.map none) := ⟨blk_cell n1 0, blk_cell n1 1, blk_cell n1 2⟩
  have hf0 := blk_frozen n1 0; have hf1 := blk_frozen n1 1; have hf2 := blk_frozen n1 2
  have hl0 : w.heap.size < W.heap.size := by omega
  have hl1 : w.heap.size + 1 < W.heap.size := by omega
  have hmm := @run_makeMap Tryd.prog
  have hi1 : (Instr.mapUpdate 82 (.map (some W.heap.size)) (.agg #[.int .i64 (-1), .int .i64 (-1), .int .i64 (-1)]) (.int .i64 0)).run Tryd.prog (W.alloc (.map #[] 0)).drew = .ok () (W.alloc (.map #[⟨keyA [-1, -1, -1], .int .i64 0, 0⟩] 1)).drew := by
    have := run_insert_new 82 3 Tryd.underlying82 spotKey (W := (W.alloc (.map #[] 0)).drew) (blk_new W _) [-1, -1, -1] rfl (.int .i64 0)
    rw [putObj_drew, putObj_new] at this
    exact this
  have HN1 := Lib.hid n1; have HN2 := Lib.hid n2; have HG := Lib.hid hG; have HP := Lib.hid hP; have HQ := Lib.hid hQ; have HN3 := Lib.hid n3
  clear n0 n1 n2 n3 hG hP hQ
  go_region
  all_goals
    go_wp2
    have hsz := HN3.out
    have hr0 := blk_set (blk_set (blk_set HN1.out 0 (.slice PA P.length pc)) 1 (.slice QA Q.length qc)) 2 (.map (some W.heap.size))
    have hsc : (((W.setCell ⟨w.heap.size + 1, 0, none⟩ (.slice PA P.length pc)).setCell ⟨w.heap.size + 1, 1, none⟩ (.slice QA Q.length qc)).setCell ⟨w.heap.size + 1, 2, none⟩ (.map (some W.heap.size))).heap.size = W.heap.size := by simp
    have hbs : Below w.heap.size w (((W.setCell ⟨w.heap.size + 1, 0, none⟩ (.slice PA P.length pc)).setCell ⟨w.heap.size + 1, 1, none⟩ (.slice QA Q.length qc)).setCell ⟨w.heap.size + 1, 2, none⟩ (.map (some W.heap.size))) := ((HN2.out.setCell (by show w.heap.size ≤ w.heap.size + 1; omega) _).setCell (by show w.heap.size ≤ w.heap.size + 1; omega) _).setCell (by show w.heap.size ≤ w.heap.size + 1; omega) _
    generalize ((W.setCell ⟨w.heap.size + 1, 0, none⟩ (.slice PA P.length pc)).setCell ⟨w.heap.size + 1, 1, none⟩ (.slice QA Q.length qc)).setCell ⟨w.heap.size + 1, 2, none⟩ (.map (some W.heap.size)) = W2 at hr0 hsc hbs ⊢
    have hm : W2.alloc (.map #[⟨keyA [-1, -1, -1], .int .i64 0, 0⟩] 1) |>.heap[W.heap.size]? = some (.map #[⟨keyA [-1, -1, -1], .int .i64 0, 0⟩] 1) := by
      have := blk_new W2 (.map #[⟨keyA [-1, -1, -1], .int .i64 0, 0⟩] 1); rwa [hsc] at this
    have hb3 : Below w.heap.size w (W2.alloc (.map #[⟨keyA [-1, -1, -1], .int .i64 0, 0⟩] 1)).drew := (below_alloc hbs _).drew
    have hr1 : (W2.alloc (.map #[⟨keyA [-1, -1, -1], .int .i64 0, 0⟩] 1)).drew.heap[w.heap.size + 1]? = some (.cells #[.slice PA P.length pc, .slice QA Q.length qc, .map (some W.heap.size)] 84 (0, 0)) := blk_alloc hr0 _
    refine bodyPost_ret (results_cell_row rfl _ _ (w.heap.size + 1) 84 _ _ _ rfl hr1 Tryd.underlying84 rfl (by kernel_rfl)) rfl ⟨W.heap.size, rfl, ⟨HG.out.below hb3, Kd.C_below HP.out hb3, Kd.C_below HQ.out hb3, initF, ?_, memo_init P Q⟩, by omega, hb3⟩
    exact MapFn.one (W2.alloc (.map #[⟨keyA [-1, -1, -1], .int .i64 0, 0⟩] 1)).drew [-1, -1, -1] (.int .i64 0) W.heap.size hm
end Go.Proofs.YtekjlpldooihhaaDoorP
namespace Go.Proofs.YtekjlpldooihhaaDoorH
set_option linter.unusedVariables false
set_option linter.unusedSimpArgs false
open Go.RowKit
def AbidesM {β : Type} (m : Nat) (Inv : World → Prop) (J : β → World → Prop) : Prop := ∀ s A B, J s A → A.grownBy B (some m) → Inv B → J s B
def SeqM {α : Type} (n : Nat) (P : Program) (gf : Nat) (lb : Array Value) (enc : α → Value) (m : Nat) (Inv : World → Prop) (xs : List α) : Prop :=
  ∀ (l : Nat) (J Jx : List α → World → Prop) (W : World), Inv W → AbidesM m Inv J → (∀ pre A, Jx pre A → Jx pre A.drew) →
    (∀ pre x W1, J pre W1 → Inv W1 → pre ++ [x] <+: xs → YieldAt Fence.wide (n - 1) P l #[enc x] W1 fun e W' =>
      (e = .returned (.bool true) ∧ J (pre ++ [x]) W' ∧ Inv W') ∨ (e = .returned (.bool false) ∧ Jx (pre ++ [x]) W')) →
    J [] W →
    CallsIn Fence.wide n P gf (#[.func (.yield l) #[] #[]] ++ lb) W fun e W' => (∃ v, e = .returned v) ∧ ((J xs W' ∧ Inv W') ∨ (∃ pre, pre <+: xs ∧ Jx pre W'))
def postM {α : Type} (B : Nat) (Inv : World → Prop) (I : List α → World → Prop) (Ix : Code → List α → World → Prop) (ys : List α) (W : World) : Exit → Act → World → Prop
  | .normal, _, W' => KeepsFrom B W W' ∧ Inv W' ∧ I ys W'
  | .ret, _, W' => KeepsFrom B W W' ∧ Ix .ret ys W'
  | .exit id, _, W' => KeepsFrom B W W' ∧ Ix (.exit id) ys W'
  | .goto t, _, W' => KeepsFrom B W W' ∧ Ix (.goto t) ys W'
  | .panic _, _, _ => False
  | .outgrown, _, _ => False
theorem rangeFunc_memo {P : Program} {n : Nat} {α : Type} {g : Operand} {ps : Array Tmp} {assign body : Code} {Q : Exit → Act → World → Prop} {a : Act} {w : World}
    (h1 : 1 ≤ n) {gf : Nat} {lb : Array Value} (hg : a.eval g = .func (.func gf) #[] lb) (eg : ∀ args w, (callFunc gf args).run P w = .ok (.enter gf args) w)
    {enc : α → Value} {m : Nat} {Inv : World → Prop} {xs : List α} (hseq : SeqM (n - 1) P gf lb enc m Inv xs) (hm : m < w.heap.size) (hInv : Inv w)
    (hIa : ∀ W o, Inv W → Inv (W.alloc o)) (hIp : ∀ W l o o', w.heap.size ≤ l → W.heap[l]? = some o → o.isCells = false → Inv W → Inv (W.putObj l o')) (hps : ps.size = 1)
    (I : List α → World → Prop) (Ix : Code → List α → World → Prop) (hI : OwnFrom w.heap.size I) (hIx : ∀ c, OwnFrom w.heap.size (Ix c)) (hIM : AbidesM m Inv I) (h0 : I [] w) (d : α → Act)
    (hassign : ∀ (l : Nat) (x : α) (W : World) (K : Act → World → Prop), K (d x) W →
      assign.wpIn (Fence.wide.inRound l) (n - 1 - 1) P (Exit.then K (fun _ _ _ => False)) { tmps := (ps.zip #[enc x]).foldl (fun t (p, v) => t.setIfInBounds p v) a.tmps, defers := [] } W)
    (hbody : ∀ (l : Nat) (pre : List α) (x : α) (W : World), w.heap.size ≤ l → l < W.heap.size → I pre W → Inv W → pre ++ [x] <+: xs → body.wpIn (Fence.wide.inRound l) (n - 1 - 1) P (postM w.heap.size Inv I Ix (pre ++ [x]) W) (d x) W)
    (hdone : ∀ (D : Nat) (W : World), w.heap.size ≤ D → I xs W → Inv W → W.heap[D]? = some (.deferred (some [])) → Q .normal { a with defers := { target := .collected D, args := #[] } :: a.defers } W)
    (hstop : ∀ (D : Nat) (c : Code) (pre : List α) (W : World), w.heap.size ≤ D → pre <+: xs → Ix c pre W → W.heap[D]? = some (.deferred (some [])) → c.wpIn Fence.wide n P Q { a with defers := { target := .collected D, args := #[] } :: a.defers } W) :
    (Code.rangeFunc g ps assign body).wpIn Fence.wide n P Q a w := by
  refine wpIn_rangeFunc fun fn hfn => ?_
  -- the loop's record, at one state after the other
  obtain ⟨rec, hrec⟩ : ∃ rec : LoopState → Option Code → Loop, rec = fun st pe => { state := st, pending := pe, fn, tmps := a.tmps, params := ps, assign, body, defers := w.heap.size } := ⟨_, rfl⟩
  obtain ⟨W1, hW1⟩ : ∃ W1, (w.alloc (.deferred (some []))).alloc (.loop (rec .ready none)) = W1 := ⟨_, rfl⟩
  have hL : W1.heap[w.heap.size + 1]? = some (.loop (rec .ready none)) := by
    have := World.alloc_heap_new (w.alloc (.deferred (some []))) (.loop (rec .ready none)); rwa [World.size_alloc, hW1] at this
  have hD : W1.heap[w.heap.size]? = some (.deferred (some [])) := by
    rw [← hW1]; exact (Below.heap_alloc _ _ _ (by simp)).trans (World.alloc_heap_new w _)
  have hI1 : I [] W1 := by rw [← hW1]; exact hI.alloc _ (hI.alloc _ h0)
  have hV1 : Inv W1 := by rw [← hW1]; exact hIa _ _ (hIa _ _ hInv)
  -- the two facts of the law's own blocks
  let Bk : Loop → World → Prop := fun r W => W.heap[w.heap.size + 1]? = some (.loop r) ∧ W.heap[w.heap.size]? = some (.deferred (some []))
  have hBkM : ∀ r A B, Bk r A → A.grownBy B (some m) → Bk r B := fun r A B h k =>
    ⟨(k.block _ (Array.getElem?_eq_some_iff.1 h.1).1 (by simp; omega)).trans h.1, (k.block _ (Array.getElem?_eq_some_iff.1 h.2).1 (by simp; omega)).trans h.2⟩
  have hput : ∀ (r r' : Loop) (W : World), Bk r W → Bk r' (W.putObj (w.heap.size + 1) (.loop r')) := fun r r' W h =>
    ⟨World.putObj_heap_same (Array.getElem?_eq_some_iff.1 h.1).1, (World.putObj_heap_other (by omega)).trans h.2⟩
  refine ⟨w.heap.size + 1, [{ target := .collected w.heap.size, args := #[] }], W1, { target := .fn (.func gf) lb, args := #[.func (.yield (w.heap.size + 1)) #[] #[]] }, W1, gf,
    #[.func (.yield (w.heap.size + 1)) #[] #[]] ++ lb, W1, ?_, ?_, ?_, ?_, fun _ => h1, ?_⟩
  · rw [← hW1, hrec]; exact run_enterLoop_outer _ _ _ _ _
  · simp only [resolve, hg]
    simp [go_sem]
  · intro f' hf'; simp [Target.leads] at hf'; subst hf'; trivial
  · simp [invoke, go_sem, eg]
  · refine (hseq (w.heap.size + 1) (fun pre W => I pre W ∧ Bk (rec .ready none) W) (fun pre W => ∃ c, Ix c pre W ∧ Bk (rec .done (some c)) W) W1 hV1
      (fun s A B hs hg' hv => ⟨hIM s A B hs.1 hg' hv, hBkM _ A B hs.2 hg'⟩)
      (fun pre A hs => by
        obtain ⟨c, hc, hb⟩ := hs
        exact ⟨c, hIx c pre A A.drew none hc ⟨rfl, rfl, rfl, Nat.le_refl _, fun _ _ _ => rfl⟩ (fun r e => by cases e), hb⟩)
      ?_ ⟨hI1, hL, hD⟩).mono ?_
    · -- one round
      rintro pre x W ⟨hi, hb⟩ hv hpre
      have hlt : w.heap.size + 1 < W.heap.size := (Array.getElem?_eq_some_iff.1 hb.1).1
      have hy := run_yield (P := P) (args := #[enc x]) hb.1 (by rw [hrec]; simpa using hps.symm)
      rw [hrec] at hy
      refine ⟨fn, _, assign, body, hy, roundIn_of_wpIn hfn (hassign _ x W _ ⟨_, run_beginRound hb.1 (by rw [hrec]), ?_⟩)⟩
      have hb2 := hput _ { rec .ready none with state := .busy } W hb
      refine wpIn_mono (hbody _ pre x _ (by omega) (Array.getElem?_eq_some_iff.1 hb2.1).1 (hI.putObj _ hi (by omega) hb.1 rfl) (hIp _ _ _ _ (by omega) hb.1 rfl hv) hpre) ?_
      have fin : ∀ (jump : Option Code) (W3 : World), KeepsFrom w.heap.size (W.putObj (w.heap.size + 1) (.loop { rec .ready none with state := .busy })) W3 →
          (Instr.endRound (w.heap.size + 1) jump).run P W3 = .ok (.bool jump.isNone) (W3.putObj (w.heap.size + 1) (.loop (rec (if jump.isNone then .ready else .done) jump))) ∧ Bk { rec .ready none with state := .busy } W3 ∧
          Bk (rec (if jump.isNone then .ready else .done) jump) (W3.putObj (w.heap.size + 1) (.loop (rec (if jump.isNone then .ready else .done) jump))) := fun jump W3 hk => by
        have hb3 : Bk { rec .ready none with state := .busy } W3 := ⟨hk.same _ _ (by omega) hb2.1 rfl, hk.same _ _ (Nat.le_refl _) hb2.2 rfl⟩
        have he := run_endRound (P := P) jump hb3.1
        have hp := hput _ (rec (if jump.isNone then .ready else .done) jump) W3 hb3
        rw [hrec] at he hp ⊢
        exact ⟨he, by rw [hrec] at hb3; exact hb3, hp⟩
      rintro e a3 W3 hp
      cases e with
      | normal =>
        obtain ⟨hk, hv3, hi3⟩ := hp
        obtain ⟨hr, hb3, hb4⟩ := fin none W3 hk
        exact ⟨_, _, hr, .inl ⟨rfl, ⟨hI.putObj _ hi3 (by omega) hb3.1 rfl, hb4⟩, hIp _ _ _ _ (by omega) hb3.1 rfl hv3⟩⟩
      | ret =>
        obtain ⟨hk, hi3⟩ := hp
        obtain ⟨hr, hb3, hb4⟩ := fin (some .ret) W3 hk
        exact ⟨_, _, hr, .inr ⟨rfl, .ret, (hIx _).putObj _ hi3 (by omega) hb3.1 rfl, hb4⟩⟩
      | exit id =>
        obtain ⟨hk, hi3⟩ := hp
        obtain ⟨hr, hb3, hb4⟩ := fin (some (.exit id)) W3 hk
        exact ⟨_, _, hr, .inr ⟨rfl, .exit id, (hIx _).putObj _ hi3 (by omega) hb3.1 rfl, hb4⟩⟩
      | goto t =>
        obtain ⟨hk, hi3⟩ := hp
        obtain ⟨hr, hb3, hb4⟩ := fin (some (.goto t)) W3 hk
        exact ⟨_, _, hr, .inr ⟨rfl, .goto t, (hIx _).putObj _ hi3 (by omega) hb3.1 rfl, hb4⟩⟩
      | panic ch => exact hp.elim
      | outgrown => exact hp.elim
    · -- behind the iterator
      rintro e W2 ⟨⟨v, rfl⟩, (⟨⟨hi, hb⟩, hv⟩ | ⟨pre, hpre, c, hi, hb⟩)⟩
      · have he := run_endLoop (P := P) hb.1 (by rw [hrec]; simp)
        refine ⟨none, _, by rw [hrec] at he; exact he, hdone _ _ (Nat.le_refl _) (hI.putObj _ hi (by omega) hb.1 rfl) (hIp _ _ _ _ (by omega) hb.1 rfl hv) ((World.putObj_heap_other (by omega)).trans hb.2)⟩
      · have he := run_endLoop (P := P) hb.1 (by rw [hrec]; simp)
        refine ⟨some c, _, by rw [hrec] at he; exact he, hstop _ c pre _ (Nat.le_refl _) hpre ((hIx c).putObj _ hi (by omega) hb.1 rfl) ((World.putObj_heap_other (by omega)).trans hb.2)⟩
theorem rangeFunc_memo_var {P : Program} {n : Nat} {α : Type} {g : Operand} {p s : Tmp} {assign body : Code} {Q : Exit → Act → World → Prop} {a : Act} {w : World}
    (h1 : 1 ≤ n) {gf : Nat} {lb : Array Value} (hg : a.eval g = .func (.func gf) #[] lb) (eg : ∀ args w, (callFunc gf args).run P w = .ok (.enter gf args) w)
    {enc : α → Value} {m : Nat} {Inv : World → Prop} {xs : List α} (hseq : SeqM (n - 1) P gf lb enc m Inv xs) (hm : m < w.heap.size) (hInv : Inv w)
    (hIa : ∀ W o, Inv W → Inv (W.alloc o)) (hIp : ∀ W l o o', w.heap.size ≤ l → W.heap[l]? = some o → o.isCells = false → Inv W → Inv (W.putObj l o'))
    (I : List α → World → Prop) (Ix : Code → List α → World → Prop) (hI : OwnFrom w.heap.size I) (hIx : ∀ c, OwnFrom w.heap.size (Ix c)) (hIM : AbidesM m Inv I) (h0 : I [] w)
    (hassign : ∀ (l : Nat) (x : α) (W : World) (K : Act → World → Prop), K { tmps := (a.tmps.setIfInBounds p (enc x)).setIfInBounds s (enc x), defers := [] } W → assign.wpIn (Fence.wide.inRound l) (n - 1 - 1) P (Exit.then K (fun _ _ _ => False)) { tmps := a.tmps.setIfInBounds p (enc x), defers := [] } W)
    (hbody : ∀ (l : Nat) (pre : List α) (x : α) (W : World), w.heap.size ≤ l → l < W.heap.size → I pre W → Inv W → pre ++ [x] <+: xs → body.wpIn (Fence.wide.inRound l) (n - 1 - 1) P (postM w.heap.size Inv I Ix (pre ++ [x]) W) { tmps := (a.tmps.setIfInBounds p (enc x)).setIfInBounds s (enc x), defers := [] } W)
    (hdone : ∀ (D : Nat) (W : World), w.heap.size ≤ D → I xs W → Inv W → W.heap[D]? = some (.deferred (some [])) → Q .normal { a with defers := { target := .collected D, args := #[] } :: a.defers } W)
    (hstop : ∀ (D : Nat) (c : Code) (pre : List α) (W : World), w.heap.size ≤ D → pre <+: xs → Ix c pre W → W.heap[D]? = some (.deferred (some [])) → c.wpIn Fence.wide n P Q { a with defers := { target := .collected D, args := #[] } :: a.defers } W) :
    (Code.rangeFunc g #[p] assign body).wpIn Fence.wide n P Q a w :=
  rangeFunc_memo h1 hg eg hseq hm hInv hIa hIp rfl I Ix hI hIx hIM h0 (fun x => { tmps := (a.tmps.setIfInBounds p (enc x)).setIfInBounds s (enc x), defers := [] }) (fun l x W K hK => by simpa using hassign l x W K hK) hbody hdone hstop
theorem results_cell_two {P : Program} {fn : Func} {p q : Tmp} {ty uy : TypeId} (h : fn.results = #[.cell p ty, .cell q uy]) {tmps : Array Value} {w : World} {g k : Nat} {v z : Value} {u u' : TypeDesc} (hp : tmps.getD p undef = .pointer (some ⟨g, 0, none⟩)) (hq : tmps.getD q undef = .pointer (some ⟨k, 0, none⟩)) (hc : w.cell? ⟨g, 0, none⟩ = some v) (hc' : w.cell? ⟨k, 0, none⟩ = some z) (hu : P.underlying ty = some u)
    (hn : (match u with | .struct _ | .array _ _ => true | _ => false) = false) (hu' : P.underlying uy = some u') (hn' : (match u' with | .struct _ | .array _ _ => true | _ => false) = false) : (results fn tmps).run P w = .ok (.tuple #[v, z]) w := by
  have hp' : tmps[p]?.getD undef = .pointer (some ⟨g, 0, none⟩) := by simpa using hp
  have hq' : tmps[q]?.getD undef = .pointer (some ⟨k, 0, none⟩) := by simpa using hq
  have hagg : (isAgg ty).run P w = .ok false w := by
    unfold isAgg
    rw [Sem.run_bind, run_underlying hu w]
    cases u <;> simp_all
  have hagg' : (isAgg uy).run P w = .ok false w := by
    unfold isAgg
    rw [Sem.run_bind, run_underlying hu' w]
    cases u' <;> simp_all
  simp [results, h, hp', hq', asAddr, loadVar, Sem.run_bind, hagg, hagg', go_sem, hc, hc']
end Go.Proofs.YtekjlpldooihhaaDoorH
