/- Maps whose keys are structs of whole numbers, told as functions; rows of whole numbers: small laws that the walks of this seat use. -/
import Derived.Test.YtdllacjkacmghaaDoorProg
import Derived.WalkKit
import Derived.WalkSpells
import Derived.WalkLawsBesides
import Derived.Laws.Rows
import Derived.Laws.CopyOwn
import Derived.Lib.Hide
import Derived.Outline
import Derived.RangeFuncNested
import Derived.RangeFuncBound
import Derived.RangeFuncCalls
import Derived.RangeFuncLeaves
import Derived.Shelf.Abstract
import Derived.Shelf.RegionOpen
import Derived.OwnWalkIn
import Derived.TacticsInMore
import Derived.LoopNIn
import Derived.LoopIn
import Derived.Maps.AppendAt
import Derived.Deep.RegionHeld3
import Derived.StillTailTactics
import Derived.Test.YtdllacjkacmghaaDoorWMore
import Derived.Test.YtdllacjkacmghaaDoorWEqStruct
namespace Go.Proofs.YtdllacjkacmghaaDoorH
set_option linter.unusedVariables false
set_option linter.unusedSimpArgs false
open Go.RowKit Go.Proofs.YtdllacjkacmghaaDoorW.PrintWords Go.Proofs.YtdllacjkacmghaaDoorW.PrintLast Go.Proofs.YtdllacjkacmghaaDoorW.PrintMore

/-! ### maps -/
/-- A key: a struct of whole numbers. -/
def keyA (ks : List Int) : Value := .agg ((ks.map (Value.int .i64)).toArray)
def intOf? : Value → Option Int
  | .int .i64 n => some n
  | _ => none
def keyOf : Value → Option (List Int)
  | .agg cs => cs.toList.mapM intOf?
  | _ => none
theorem keyOf_keyA (ks : List Int) : keyOf (keyA ks) = some ks := by
  have : ∀ l : List Int, (l.map (Value.int .i64)).mapM intOf? = some l := by
    intro l
    induction l with
    | nil => rfl
    | cons a l ih => simp [List.mapM_cons, intOf?, ih]
  simp [keyOf, keyA, this]
/-- What a list of entries holds. -/
def entryOf (es : List MapEntry) (ks : List Int) : Option Value := (es.find? fun e => keyOf e.key == some ks).map (·.val)
/-- BLOCK m IS A MAP THAT HOLDS f: its keys are n whole numbers each. -/
def MapFn (n : Nat) (w : World) (m : Nat) (f : List Int → Option Value) : Prop :=
  ∃ arr clock, w.heap[m]? = some (.map arr clock) ∧ (∀ e ∈ arr.toList, ∃ ks, ks.length = n ∧ e.key = keyA ks) ∧ ∀ ks, ks.length = n → entryOf arr.toList ks = f ks

theorem MapFn.lt {n : Nat} {w : World} {m : Nat} {f : List Int → Option Value} (h : MapFn n w m f) : m < w.heap.size := by
  obtain ⟨arr, clock, h1, _⟩ := h
  exact (Array.getElem?_eq_some_iff.1 h1).1
theorem MapFn.same {n : Nat} {w w1 : World} {m : Nat} {f : List Int → Option Value} (h : MapFn n w m f) (e : w1.heap[m]? = w.heap[m]?) : MapFn n w1 m f := by
  obtain ⟨arr, clock, h1, h2⟩ := h
  exact ⟨arr, clock, e.trans h1, h2⟩
theorem MapFn.below {n : Nat} {w w1 : World} {m : Nat} {f : List Int → Option Value} (h : MapFn n w m f) (hb : Below w.heap.size w w1) : MapFn n w1 m f := h.same (hb.block m h.lt)
theorem MapFn.alloc {n : Nat} {w : World} {m : Nat} {f : List Int → Option Value} (h : MapFn n w m f) (o : Obj) : MapFn n (w.alloc o) m f := h.below (below_alloc (Below.refl _ _) o)
theorem MapFn.drew {n : Nat} {w : World} {m : Nat} {f : List Int → Option Value} (h : MapFn n w m f) : MapFn n w.drew m f := h.same rfl
theorem MapFn.drewN {n : Nat} {w : World} {m : Nat} {f : List Int → Option Value} (h : MapFn n w m f) (k : Nat) : MapFn n (w.drewN k) m f := h.same rfl
theorem MapFn.imp {n : Nat} {w : World} {m : Nat} {f g : List Int → Option Value} (h : MapFn n w m f) (e : ∀ ks, ks.length = n → f ks = g ks) : MapFn n w m g := by
  obtain ⟨arr, clock, h1, h2, h3⟩ := h
  exact ⟨arr, clock, h1, h2, fun ks hk => (h3 ks hk).trans (e ks hk)⟩
theorem MapFn.new (n : Nat) (w : World) : MapFn n (w.alloc (.map #[] 0)) w.heap.size (fun _ => none) :=
  ⟨#[], 0, blk_new w _, by simp, fun ks _ => by simp [entryOf]⟩

section
variable {P : Program} {K : TypeId} {n : Nat}
theorem getMap {w : World} {m : Nat} {arr : Array MapEntry} {clock : Nat} (h : w.heap[m]? = some (.map arr clock)) : (getObj m).run P w = .ok (.map arr clock) w := by simp [getObj, Sem.run, h]
theorem setMap {w : World} {m : Nat} {arr : Array MapEntry} {clock : Nat} (o : Obj) (h : w.heap[m]? = some (.map arr clock)) : (setObj m o).run P w = .ok () (w.putObj m o) := by simp [setObj, Sem.run, h, World.putObj]
/-- The key's type compares as the numbers do. -/
structure KeyEq (P : Program) (K n : Nat) : Prop where
  desc : ∃ fs, P.underlying K = some (.struct fs)
  check : ∀ (em : Bool) (a : List Int), a.length = n → ∀ w, (Instr.checkKey em 10000 K (keyA a)).run P w = .ok () w
  eq : ∀ a b : List Int, a.length = n → b.length = n → ∀ w, (Op.equal K (keyA a) (keyA b)).run P w = .ok (decide (a = b)) w

theorem run_findAsking (hK : KeyEq P K n) (ks : List Int) (hk : ks.length = n) (w : World) : ∀ (es : List MapEntry) (i : Nat), (∀ e ∈ es, ∃ ls, ls.length = n ∧ e.key = keyA ls) →
    (Instr.findAsking K (keyA ks) es i).run P w = .ok (((es.zipIdx i).find? fun p => keyOf p.1.key == some ks).map fun p => (p.2, p.1.val)) w := by
  intro es
  induction es with
  | nil => intro i _; simp [Instr.findAsking]
  | cons e es ih =>
    intro i h
    obtain ⟨ls, hl, he⟩ := h e List.mem_cons_self
    rw [Instr.findAsking]
    simp only [Sem.run_bind, he, hK.eq ks ls hk hl w, Result.andThen_ok, List.zipIdx_cons, List.find?_cons, keyOf_keyA]
    by_cases hq : ks = ls
    · subst hq; simp
    · have h1 : (some ls == some ks) = false := by simpa using fun h => hq h.symm
      simp only [hq, decide_false, Bool.false_eq_true, ↓reduceIte, h1]
      exact ih (i + 1) (fun e he => h e (List.mem_cons_of_mem _ he))

theorem run_findKey (hK : KeyEq P K n) (ks : List Int) (hk : ks.length = n) (w : World) (es : List MapEntry) (h : ∀ e ∈ es, ∃ ls, ls.length = n ∧ e.key = keyA ls) :
    (Instr.findKey K (keyA ks) es).run P w = .ok (((es.zipIdx 0).find? fun p => keyOf p.1.key == some ks).map fun p => (p.2, p.1.val)) w := by
  obtain ⟨fs, hd⟩ := hK.desc
  unfold Instr.findKey
  simp only [Sem.run_bind, run_underlying hd, Result.andThen_ok]
  cases es with
  | nil => simp [Instr.findNow]
  | cons e es =>
    obtain ⟨ls, hl, he⟩ := h e List.mem_cons_self
    have h0 : Instr.findNow (.struct fs) (keyA ks) (e :: es) 0 = none := by simp [Instr.findNow, Instr.sameNow]
    rw [h0]
    exact run_findAsking hK ks hk w (e :: es) 0 h

theorem find_zip {α : Type} (p : α → Bool) : ∀ (es : List α) (i : Nat), (((es.zipIdx i).find? fun q => p q.1).map fun q => q.1) = es.find? p := by
  intro es
  induction es with
  | nil => intro i; rfl
  | cons e es ih => intro i; simp only [List.zipIdx_cons, List.find?_cons]; cases p e <;> simp [ih]

/-- v, ok := m[k] -/
theorem run_lookup_fn (T E : TypeId) (hT : P.underlying T = some (.map K E)) (hK : KeyEq P K n) {z : Value} (hz : ∀ w, (zeroValue E).run P w = .ok z w) {w : World} {m : Nat} {f : List Int → Option Value} (h : MapFn n w m f) (ks : List Int) (hk : ks.length = n) (ok : Bool) :
    (Instr.lookup T (.map (some m)) (keyA ks) ok).run P w = .ok (if ok then .tuple #[(f ks).getD z, .bool (f ks).isSome] else (f ks).getD z) w := by
  obtain ⟨arr, clock, h1, h2, h3⟩ := h
  have h4 := h3 ks hk
  have hf := run_findKey hK ks hk w arr.toList h2
  have hz4 := find_zip (fun e : MapEntry => keyOf e.key == some ks) arr.toList 0
  unfold entryOf at h4
  rw [← hz4] at h4
  unfold Instr.lookup
  simp only [Sem.run_bind, run_underlying hT, Result.andThen_ok, getMap h1, Sem.run_pure, hK.check _ ks hk, hf]
  revert h4
  cases ((arr.toList.zipIdx 0).find? fun p => keyOf p.1.key == some ks) with
  | none => intro h4; simp only [Option.map_none] at h4 ⊢; rw [← h4]; cases ok <;> simp [hz]
  | some p => intro h4; simp only [Option.map_some] at h4 ⊢; rw [← h4]; cases ok <;> simp

/-- m[k] = v, the first entry -/
theorem run_insert_new (T E : TypeId) (hT : P.underlying T = some (.map K E)) (hK : KeyEq P K n) {W : World} {m : Nat} (h : W.heap[m]? = some (.map #[] 0)) (ks : List Int) (hk : ks.length = n) (v : Value) :
    (Instr.mapUpdate T (.map (some m)) (keyA ks) v).run P W = .ok () (W.putObj m (.map #[⟨keyA ks, v, 0⟩] 1)) := by
  have hf := run_findKey hK ks hk W [] (by simp)
  unfold Instr.mapUpdate
  simp only [Sem.run_bind, run_underlying hT, Result.andThen_ok, getMap h, hK.check _ ks hk, hf]
  simp [setMap _ h]
theorem putObj_new (W : World) (o o' : Obj) : (W.alloc o).putObj W.heap.size o' = W.alloc o' := by
  simp only [World.alloc, World.putObj, World.mk.injEq, and_true]
  apply Array.ext_getElem?
  intro i
  rw [Array.getElem?_setIfInBounds]
  by_cases h : W.heap.size = i
  · subst h; simp
  · rw [if_neg h, Array.getElem?_push, Array.getElem?_push, if_neg (fun e => h e.symm), if_neg (fun e => h e.symm)]
theorem putObj_old (W : World) (m : Nat) (o o' : Obj) (h : m < W.heap.size) : (W.alloc o).putObj m o' = (W.putObj m o').alloc o := by
  simp only [World.alloc, World.putObj, World.mk.injEq, and_true]
  apply Array.ext_getElem?
  intro i
  rw [Array.getElem?_setIfInBounds, Array.getElem?_push, Array.getElem?_push, Array.getElem?_setIfInBounds]
  simp only [Array.size_push, Array.size_setIfInBounds]
  by_cases h1 : m = i
  · subst h1
    have h2 : ¬ m = W.heap.size := by omega
    simp [h2, show m < W.heap.size + 1 by omega, h]
  · simp [h1]
theorem putObj_drew (W : World) (m : Nat) (o : Obj) : W.drew.putObj m o = (W.putObj m o).drew := rfl
theorem MapFn.one (W : World) (ks : List Int) (v : Value) (m : Nat) (h : W.heap[m]? = some (.map #[⟨keyA ks, v, 0⟩] 1)) : MapFn ks.length W m (fun ls => if ls = ks then some v else none) :=
  ⟨_, _, h, fun e he => ⟨ks, rfl, by simp at he; rw [he]⟩, fun ls _ => by
    by_cases e : ls = ks
    · subst e; simp [entryOf, keyOf_keyA]
    · have : (some ks == some ls) = false := by simpa using fun h => e h.symm
      simp [entryOf, keyOf_keyA, List.find?_cons, this, e]⟩

theorem sameBits_ints : ∀ (d : Nat) (ks : List Int), 2 ≤ d → Instr.sameBits d (keyA ks) (keyA ks) = true := by
  intro d ks hd
  obtain ⟨d, rfl⟩ : ∃ e, d = e + 2 := ⟨d - 2, by omega⟩
  unfold keyA
  simp only [Instr.sameBits, beq_self_eq_true, Bool.true_and]
  rw [List.all_eq_true]
  intro p hp
  have : p.1 = p.2 ∧ ∃ a : Int, p.1 = .int .i64 a := by
    simp only [List.zip_map_left, List.zip_map_right, List.mem_map] at hp
    obtain ⟨⟨x, y⟩, ⟨⟨x', y'⟩, hz, hzz⟩, he⟩ := hp
    have : x' = y' := by
      have hzi : ∀ (l : List Int) (q : Int × Int), q ∈ l.zip l → q.1 = q.2 := by
        intro l; induction l with
        | nil => simp
        | cons a l ih => intro q hq; simp only [List.zip_cons_cons, List.mem_cons] at hq; rcases hq with rfl | hq; rfl; exact ih q hq
      exact hzi ks _ hz
    subst this
    simp at hzz he
    obtain ⟨rfl, rfl⟩ := hzz
    subst he
    exact ⟨rfl, _, rfl⟩
  obtain ⟨h1, a, h2⟩ := this
  obtain ⟨x, y⟩ := p
  simp only at h1 h2
  subst h1
  subst h2
  simp [Instr.sameBits]

/-- m[k] = v -/
theorem run_mapUpdate_fn (T E : TypeId) (hT : P.underlying T = some (.map K E)) (hK : KeyEq P K n) {w : World} {m : Nat} {f : List Int → Option Value} (h : MapFn n w m f) (ks : List Int) (hk : ks.length = n) (v : Value) :
    ∃ w1, (Instr.mapUpdate T (.map (some m)) (keyA ks) v).run P w = .ok () w1 ∧ MapFn n w1 m (fun ls => if ls = ks then some v else f ls) ∧ w.grownBy w1 (some m) := by
  obtain ⟨arr, clock, h1, h2, h3⟩ := h
  have hf := run_findKey hK ks hk w arr.toList h2
  have hlt : m < w.heap.size := (Array.getElem?_eq_some_iff.1 h1).1
  unfold Instr.mapUpdate
  simp only [Sem.run_bind, run_underlying hT, Result.andThen_ok, getMap h1, hK.check _ ks hk, hf]
  have hz4 := fun ls : List Int => find_zip (fun e : MapEntry => keyOf e.key == some ls) arr.toList 0
  cases hq : ((arr.toList.zipIdx 0).find? fun p => keyOf p.1.key == some ks) with
  | none =>
    refine ⟨w.putObj m (.map (arr.push { key := keyA ks, val := v, born := clock }) (clock + 1)), ?_, ⟨_, _, World.putObj_heap_same hlt, ?_, ?_⟩, grownBy_putObj' w m _⟩
    · simp [setMap _ h1]
    · intro e he
      simp only [Array.toList_push, List.mem_append, List.mem_singleton] at he
      rcases he with he | rfl
      · exact h2 e he
      · exact ⟨ks, hk, rfl⟩
    · intro ls hl
      have hn : arr.toList.find? (fun e : MapEntry => keyOf e.key == some ks) = none := by rw [← hz4 ks, hq]; rfl
      have h3' := h3 ls hl
      unfold entryOf at h3' ⊢
      rw [Array.toList_push, List.find?_append]
      by_cases e : ls = ks
      · subst e
        simp [hn, keyOf_keyA]
      · have h1 : (some ks == some ls) = false := by simpa using fun h => e h.symm
        simp only [if_neg e, ← h3', List.find?_cons, keyOf_keyA, h1, List.find?_nil, Option.or_none]
  | some p =>
    obtain ⟨e0, i⟩ := p
    have hmem := List.mem_of_find?_eq_some hq
    have hpred := List.find?_some hq
    simp only [beq_iff_eq] at hpred
    obtain ⟨hi0, hi1, hi2⟩ := List.mem_zipIdx hmem
    simp only [Nat.zero_add, Nat.sub_zero, Array.length_toList] at hi1 hi2
    have hkey : e0.key = keyA ks := by
      obtain ⟨ls, _, hl2⟩ := h2 e0 (by rw [hi2]; exact Array.getElem_mem_toList _)
      rw [hl2, keyOf_keyA] at hpred
      rw [hl2, Option.some.inj hpred]
    have hget : arr[i]? = some e0 := by rw [hi2, Array.getElem_toList]; exact Array.getElem?_eq_getElem hi1
    have hold : ((arr[i]?).map (·.key)).getD (keyA ks) = keyA ks := by rw [hget]; simp [hkey]
    have hmod : arr.modify i (fun e => { e with key := keyA ks, val := v }) = arr.modify i (fun e => { e with val := v }) := by
      apply Array.ext_getElem?
      intro j
      rw [Array.getElem?_modify, Array.getElem?_modify]
      by_cases hj : i = j
      · subst hj; rw [hget]; simp [← hkey]
      · simp [hj]
    refine ⟨w.putObj m (.map (arr.modify i fun e => { e with val := v }) clock), ?_, ⟨_, _, World.putObj_heap_same hlt, ?_, ?_⟩, grownBy_putObj' w m _⟩
    · simp only [Option.map_some, Sem.run_bind, hold, Instr.keyThatStays, sameBits_ints 10000 ks (by omega), ↓reduceIte, Sem.run_pure, Result.andThen_ok, hmod]
      simp [setMap _ h1]
    · intro e he
      rw [Array.mem_toList_iff] at he
      obtain ⟨j, hj, rfl⟩ := Array.getElem_of_mem he
      rw [Array.getElem_modify]
      have hj' : j < arr.size := by simpa using hj
      obtain ⟨ls, hl⟩ := h2 arr[j] (Array.getElem_mem_toList _)
      split
      · exact ⟨ls, hl⟩
      · exact ⟨ls, hl⟩
    · intro ls hl
      have h3' := h3 ls hl
      unfold entryOf at h3' ⊢
      have hm : ∀ (l : List MapEntry) (k : Nat) (g : MapEntry → MapEntry), (∀ e, (g e).key = e.key) → (l.modify k g).find? (fun e => keyOf e.key == some ls) = ((l.zipIdx 0).find? (fun p => keyOf p.1.key == some ls)).map (fun p => if p.2 = k then g p.1 else p.1) := by
        intro l k g hg
        have gen : ∀ (l : List MapEntry) (k s : Nat), (l.modify k g).find? (fun e => keyOf e.key == some ls) = ((l.zipIdx s).find? (fun p => keyOf p.1.key == some ls)).map (fun p => if p.2 = k + s then g p.1 else p.1) := by
          intro l
          induction l with
          | nil => intro k s; simp
          | cons e l ih =>
            intro k s
            cases k with
            | zero =>
              simp only [List.modify_zero_cons, List.find?_cons, List.zipIdx_cons, hg, Nat.zero_add]
              cases hc : (keyOf e.key == some ls) with
              | true => simp
              | false =>
                have := find_zip (fun e : MapEntry => keyOf e.key == some ls) l (s + 1)
                simp only
                rw [← this]
                cases hw : (l.zipIdx (s + 1)).find? (fun p => keyOf p.1.key == some ls) with
                | none => rfl
                | some p =>
                  have := (List.mem_zipIdx (List.mem_of_find?_eq_some hw)).1
                  simp only [Option.map_some]
                  rw [if_neg (by omega)]
            | succ k =>
              simp only [List.modify_succ_cons, List.find?_cons, List.zipIdx_cons]
              cases hc : (keyOf e.key == some ls) with
              | true => simp only [Option.map_some]; rw [if_neg (by omega)]
              | false => simp only; rw [ih k (s + 1)]; congr 1; funext p; congr 1; simp only [eq_iff_iff]; omega
        simpa using gen l k 0
      rw [show (arr.modify i fun e => { e with val := v }).toList = arr.toList.modify i (fun e => { e with val := v }) from by simp]
      refine (congrArg (Option.map (·.val)) (hm arr.toList i (fun e => { e with val := v }) (fun e => rfl))).trans ?_
      show _ = if ls = ks then some v else f ls
      by_cases e : ls = ks
      · subst e
        rw [if_pos rfl, hq]
        simp
      · rw [if_neg e, ← h3', ← hz4 ls]
        cases hw : (arr.toList.zipIdx 0).find? (fun p => keyOf p.1.key == some ls) with
        | none => rfl
        | some p =>
          simp only [Option.map_some]
          split
          · rename_i hpi
            exfalso
            obtain ⟨_, hp1, hp2⟩ := List.mem_zipIdx (List.mem_of_find?_eq_some hw)
            have hp3 := List.find?_some hw
            simp only [beq_iff_eq] at hp3
            have : p.1 = e0 := by rw [hp2, hi2]; congr 1
            rw [this, hkey, keyOf_keyA] at hp3
            exact e (Option.some.inj hp3).symm
          · rfl
end
/-! ### a scope that no goto leaves, inside a fence -/
section
variable {P : Program} {F : Fence} {n : Nat} {b : Frame} {a : Act} {k : List Item} {cs : List Frame} {w : World} {Q : Exit → Act → World → Prop}
theorem stepR_scope {c : Code} : step P (lone (b.atR a (.code (.scope c) :: k)) cs w) = .next (lone (b.atR a (.code c :: .inScope c :: k)) cs w) :=
  step_lone_go (by simp [stepG, stepG.exec, Frame.atR])
theorem stepR_inScope {c : Code} : step P (lone (b.atR a (.inScope c :: k)) cs w) = .next (lone (b.atR a k) cs w) :=
  step_lone_go (by simp [stepG, stepG.exec, Frame.atR])
theorem wpIn_scope {c : Code} (h : c.wpIn F n P (Exit.noGoto Q) a w) : (Code.scope c).wpIn F n P Q a w := by
  intro b k cs hro hb hr
  have h0 : (lone (b.atR a (.code (.scope c) :: k)) cs w).fenced P F := fenced_calm hb hr rfl
  obtain ⟨e, a₁, w₁, hq, harr⟩ := h b (.inScope c :: k) cs hro hb hr
  cases e with
  | normal => exact ⟨.normal, a₁, w₁, hq, .head h0 stepR_scope (StepsIn.trans harr (.one (fenced_calm hb hr rfl) stepR_inScope))⟩
  | exit id =>
    have hx : exitTo id (.inScope c :: k) = exitTo id k := by simp [exitTo]
    exact ⟨_, a₁, w₁, hq, fun k' hk => .head h0 stepR_scope (harr.1 k' (by rw [hx]; exact hk)),
      fun hr' hk => let ⟨k₁, h1, h2⟩ := harr.2 hr' (by rw [hx]; exact hk); ⟨k₁, h1, .head h0 stepR_scope h2⟩⟩
  | goto l => exact hq.elim
  | ret => exact ⟨_, a₁, w₁, hq, .of_steps (.one h0 stepR_scope) harr⟩
  | panic ch => exact ⟨_, a₁, w₁, hq, .of_steps (.one h0 stepR_scope) harr⟩
  | outgrown => exact ⟨_, a₁, w₁, hq, .of_steps (.one h0 stepR_scope) harr⟩
end

/-! ### a call of a function value, as a step of a region that draws -/
theorem goesV_ {P : Program} {ops : Array Oper} {Q : Exit → Act → World → Prop} {oi : Oper} {N : Option Tmp} {a : Act} {w : World} {K : Act → World → Prop} {f : FuncId} {fn : Func} {x : Operand} {fst cap : Array Value} {ars : Array Operand} {ts : Array TypeId} (hf : P.funcs[f]? = some fn) (hname : (fn.name == "runtime.NumGoroutine") = false) (hb : fn.body.isSome = true) (args : Array Value)
    (hw : Region.wanted oi (yielded ops a.tmps) = true) (hN : oi.dst = N) (hop : oi.op = .call { callee := .value x, args := ars, argTypes := ts }) (hx : a.eval x = .func (.func f) fst cap) (hargs : fst ++ ars.map a.eval ++ cap = args)
    (h : Calls P f args w fun e w' => ∃ v, e = .returned v ∧ K (a.put N v) w') : if Region.wanted oi (yielded ops a.tmps) = true then Oper.wp P oi a w K Q else K (a.put N undef) w := by
  refine call_ f args hw hN ?_ h
  have he := enters_ hf hname hb args w
  unfold execOp
  simp only [hop, resolve, hx]
  simp only [Deferred.ofValue, invoke, Sem.run_bind, Sem.run_pure, Result.andThen_ok]
  simpa [hargs] using he

/-! ### what stays while a loop over an iterator goes its own way -/
theorem turn_cells {A B : World} {row : Option Nat} {b g : Nat} {cs : Array Value} {t : TypeId} {fr : Nat × Nat} (h : A.heap[g]? = some (.cells cs t fr)) (hg : A.grownBy B row) (hr : ∀ r, row = some r → b ≤ r ∧ ∃ o : Obj, A.heap[r]? = some o ∧ o.isCells = false) : B.heap[g]? = some (.cells cs t fr) := by
  refine (hg.block g (blk_lt h) (fun e => ?_)).trans h
  obtain ⟨_, o, ho, hc⟩ := hr g e.symm
  rw [h] at ho
  cases ho
  cases hc
theorem turn_below {A B w : World} {row : Option Nat} {b n : Nat} (h : Below n w A) (hn : n ≤ w.heap.size) (hb : n ≤ b) (hg : A.grownBy B row) (hr : ∀ r, row = some r → b ≤ r ∧ ∃ o : Obj, A.heap[r]? = some o ∧ o.isCells = false) : Below n w B :=
  h.grown hg (Nat.le_trans hn h.size) (fun k e => Nat.le_trans hb (hr k e).1)
theorem turn_R {α : Type} {d : Kd α} {e base : Nat} {A B : World} {ok : Nat → Prop} {v : Value} {xs : List α} {row : Option Nat} {b : Nat} (h : d.R e A base ok v xs) (hg : A.grownBy B row) (hr : ∀ r, row = some r → b ≤ r ∧ ∃ o : Obj, A.heap[r]? = some o ∧ o.isCells = false) : d.R e B base ok v xs := by
  refine Kd.R_mono (Kd.R_move (Kd.R_bound h) (fun k hk => ?_)) (fun k hk => hk.1)
  obtain ⟨_, _, _, q, _, cells', hc⟩ := hk
  exact (turn_cells hc hg hr).trans hc.symm

/-! ### a loop over an iterator, in the wide fence -/
/-- what a loop's body keeps, and the law's own blocks, from B on, too -/
def KeepsOf (B : Nat) (Kp : World → World → Prop) : Prop := (∀ {X Y Z : World}, Kp X Y → Kp Y Z → Kp X Z) ∧ ∀ (W : World) (l : Nat) (o o' : Obj), B ≤ l → W.heap[l]? = some o → o.isCells = false → o.isWalk = false → Kp W (W.putObj l o')
/-- the four blocks from g on stay -/
def KeepG (g : Nat) (W W' : World) : Prop := ∀ k, g ≤ k → k < g + 4 → W'.heap[k]? = W.heap[k]?
theorem KeepG.refl (g : Nat) (W : World) : KeepG g W W := fun _ _ _ => rfl
theorem KeepG.trans {g : Nat} {X Y Z : World} (h : KeepG g X Y) (k : KeepG g Y Z) : KeepG g X Z := fun i h1 h2 => (k i h1 h2).trans (h i h1 h2)
theorem KeepG.drew {g : Nat} {X Y : World} (h : KeepG g X Y) : KeepG g X Y.drew := h
theorem grownBy_putObj_at (W : World) (l : Nat) (o : Obj) (k : Nat) (h : k ≠ l) : (W.putObj l o).heap[k]? = W.heap[k]? := by
  show (W.heap.setIfInBounds l o)[k]? = _
  rw [Array.getElem?_setIfInBounds_ne (fun e => h e.symm)]
theorem KeepG.keeps {g B : Nat} (h : g + 4 ≤ B) : KeepsOf B (KeepG g) := ⟨fun h k => h.trans k, fun W l o o' hB _ _ _ i h1 h2 => (grownBy_putObj_at W l o' i (by omega))⟩
theorem rangeFunc_any {P : Program} {n : Nat} {α : Type} {g : Operand} {ps : Array Tmp} {assign body : Code} {Q : Exit → Act → World → Prop} {a : Act} {w : World}
    (h1 : 1 ≤ n) {gf : Nat} {lb : Array Value} (hg : a.eval g = .func (.func gf) #[] lb) (eg : ∀ args w, (callFunc gf args).run P w = .ok (.enter gf args) w)
    {encs : α → Array Value} {Kp : World → World → Prop} {S Sp : List α → Prop} {N : Nat} (hseq : SeqStopsK Fence.wide (n - 1) P gf lb encs Kp S Sp N w) (hKp : KeepsOf w.heap.size Kp) (hps : ∀ x, (encs x).size = ps.size)
    (I : List α → World → Prop) (Ix : Code → List α → World → Prop) (hI : OwnFrom w.heap.size I) (hIx : ∀ c, OwnFrom w.heap.size (Ix c)) (h0 : I [] w) (d : Act → α → Act)
    (hassign : ∀ (l : Nat) (x : α) (W : World) (b : Act) (K : Act → World → Prop), b.tmps.size = a.tmps.size → K (d b x) W → assign.wpIn (Fence.wide.inRound l) (n - 1 - 1) P (Exit.then K (fun _ _ _ => False)) { tmps := (ps.zip (encs x)).foldl (fun t (p, v) => t.setIfInBounds p v) b.tmps, defers := [] } W)
    (hbody : ∀ (l : Nat) (pre : List α) (x : α) (W : World), I pre W → pre.length < N → body.wpIn (Fence.wide.inRound l) (n - 1 - 1) P (ownPostG w.heap.size Kp I Ix (pre ++ [x]) W) (d a x) W)
    (hdone : ∀ (D : Nat) (xs : List α) (W : World), w.heap.size ≤ D → S xs → I xs W → W.heap[D]? = some (.deferred (some [])) → Q .normal { a with defers := { target := .collected D, args := #[] } :: a.defers } W)
    (hstop : ∀ (D : Nat) (c : Code) (pre : List α) (W : World), w.heap.size ≤ D → Sp pre → Ix c pre W → W.heap[D]? = some (.deferred (some [])) → c.wpIn Fence.wide n P Q { a with defers := { target := .collected D, args := #[] } :: a.defers } W) :
    (Code.rangeFunc g ps assign body).wpIn Fence.wide n P Q a w :=
  wpIn_rangeFunc_ownG rfl h1 hg trivial eg hseq (fun h k => hKp.1 h k) hKp.2 (Below.refl _ _) hps I Ix hI hIx h0 (d a) (fun l x W K hK => hassign l x W a K rfl hK) hbody hdone hstop
/-- The loop's variable is not assigned to another one. -/
theorem rangeFunc_skip {P : Program} {n : Nat} {α : Type} {g : Operand} {ps : Array Tmp} {body : Code} {Q : Exit → Act → World → Prop} {a : Act} {w : World}
    (h1 : 1 ≤ n) {gf : Nat} {lb : Array Value} (hg : a.eval g = .func (.func gf) #[] lb) (eg : ∀ args w, (callFunc gf args).run P w = .ok (.enter gf args) w)
    {encs : α → Array Value} {Kp : World → World → Prop} {S Sp : List α → Prop} {N : Nat} (hseq : SeqStopsK Fence.wide (n - 1) P gf lb encs Kp S Sp N w) (hKp : KeepsOf w.heap.size Kp) (hps : ∀ x, (encs x).size = ps.size)
    (I : List α → World → Prop) (Ix : Code → List α → World → Prop) (hI : OwnFrom w.heap.size I) (hIx : ∀ c, OwnFrom w.heap.size (Ix c)) (h0 : I [] w)
    (hbody : ∀ (l : Nat) (pre : List α) (x : α) (W : World), I pre W → pre.length < N → body.wpIn (Fence.wide.inRound l) (n - 1 - 1) P (ownPostG w.heap.size Kp I Ix (pre ++ [x]) W) { tmps := (ps.zip (encs x)).foldl (fun t (p, v) => t.setIfInBounds p v) a.tmps, defers := [] } W)
    (hdone : ∀ (D : Nat) (xs : List α) (W : World), w.heap.size ≤ D → S xs → I xs W → W.heap[D]? = some (.deferred (some [])) → Q .normal { a with defers := { target := .collected D, args := #[] } :: a.defers } W)
    (hstop : ∀ (D : Nat) (c : Code) (pre : List α) (W : World), w.heap.size ≤ D → Sp pre → Ix c pre W → W.heap[D]? = some (.deferred (some [])) → c.wpIn Fence.wide n P Q { a with defers := { target := .collected D, args := #[] } :: a.defers } W) :
    (Code.rangeFunc g ps .skip body).wpIn Fence.wide n P Q a w :=
  rangeFunc_any h1 hg eg hseq hKp hps I Ix hI hIx h0 (fun b x => { tmps := (ps.zip (encs x)).foldl (fun t (p, v) => t.setIfInBounds p v) b.tmps, defers := [] }) (fun _ _ _ _ _ _ hK => wpIn_skip hK) hbody hdone hstop

theorem results_cell_one {P : Program} {fn : Func} {p : Tmp} {ty : TypeId} (h : fn.results = #[.cell p ty]) {tmps : Array Value} {w : World} {g : Nat} {v : Value} {u : TypeDesc} (hp : tmps.getD p undef = .pointer (some ⟨g, 0, none⟩)) (hc : w.cell? ⟨g, 0, none⟩ = some v) (hu : P.underlying ty = some u)
    (hn : (match u with | .struct _ | .array _ _ => true | _ => false) = false) : (results fn tmps).run P w = .ok v w := by
  have hp' : tmps[p]?.getD undef = .pointer (some ⟨g, 0, none⟩) := by simpa using hp
  have hagg : (isAgg ty).run P w = .ok false w := by
    unfold isAgg
    rw [Sem.run_bind, run_underlying hu w]
    cases u <;> simp_all
  simp [results, h, hp', asAddr, loadVar, Sem.run_bind, hagg, go_sem, hc]

/-! ### '==' of arrays -/
theorem run_eqItems_fn {P : Program} {w : World} {d : Nat} {e c : Nat} {xs ys : Array Value} (f g : Nat → Value) (q : Nat → Bool) : ∀ (is : List Nat), (∀ i ∈ is, (part e xs (i * c)).run P w = .ok (f i) w) → (∀ i ∈ is, (part e ys (i * c)).run P w = .ok (g i) w) →
    (∀ i ∈ is, (Op.equalIn d e (f i) (g i)).run P w = .ok (q i) w) → (Op.eqItems d e c xs ys is).run P w = .ok (is.all q) w
  | [], _, _, _ => by simp [Op.eqItems]
  | i :: is, h1, h2, h3 => by
    simp only [Op.eqItems, Sem.run_bind, h1 i List.mem_cons_self, h2 i List.mem_cons_self, h3 i List.mem_cons_self, Result.andThen_ok, List.all_cons]
    have ih := run_eqItems_fn f g q is (fun j hj => h1 j (List.mem_cons_of_mem _ hj)) (fun j hj => h2 j (List.mem_cons_of_mem _ hj)) (fun j hj => h3 j (List.mem_cons_of_mem _ hj))
    cases q i
    · simp
    · simpa using ih

/-! ### slices of slices, and small words -/
theorem at_row {α : Type} {e : Nat} {d : Kd α} {w : World} {A : Option Addr} {n : Nat} {xs : List (List α)} (h : Kd.C (Kd.slice e d) w A n xs) (k : Nat) (hk : k < n) :
    ∃ ad A0 c0 x, A = some ad ∧ xs[k]? = some x ∧ w.cell? (ad.add k) = some (.slice A0 x.length c0) ∧ x.length ≤ c0 ∧ d.C w A0 x.length x := by
  have hl : xs.length = n := Kd.C_len h
  obtain ⟨ad, c, e1, _, hK, hc0⟩ := Kd.C_get h ([] : List α) (k : Int) (by omega) (by omega)
  obtain ⟨A0, c0, rfl, l0, g0⟩ := hK
  have hx : xs[k]? = some (xs.getD (k : Int).toNat []) := by simp [List.getElem?_eq_getElem (show k < xs.length by omega)]
  refine ⟨ad, A0, c0, _, e1, hx, ?_, l0, g0⟩
  have hq := hc0 0 _ rfl
  rw [show (Kd.slice e d).sz = 1 from rfl, Nat.mul_one, Nat.add_zero, Int.toNat_natCast] at hq
  exact hq
theorem undrew {B : Nat} {w w1 : World} (h : Below B w.drew w1) : Below B w w1 := ⟨h.os, h.tape, h.output, h.size, h.block⟩
theorem _root_.Go.Proofs.YtdllacjkacmghaaDoorW.PrintWords.Kd.R_setRow {α : Type} {d : Kd α} {e base : Nat} {w : World} {ok : Nat → Prop} {v : Value} {xs : List α} (h : d.R e w base ok v xs) {g t : Nat} {cells : Array Value} (hb : w.heap[g]? = some (.cells cells t (0, 0))) (ht : ∀ q, q ∈ e :: d.E → q ≠ t) (cs : Array Value) : d.R e (w.setRow g cs) base ok v xs := by
  refine Kd.R_mono (Kd.R_move (Kd.R_bound h) (fun k hk => ?_)) (fun k hk => hk.1)
  obtain ⟨_, _, _, q, hq, cells', hc⟩ := hk
  refine setRow_other _ _ _ _ (fun e1 => ?_)
  rw [e1, hb] at hc
  injection hc with hc
  injection hc with _ hc
  exact ht q hq hc.symm
theorem map_ne_row {α : Type} {d : Kd α} {e : Nat} {w : World} {base : Nat} {ok : Nat → Prop} {v : Value} {xs : List α} (h : d.R e w base ok v xs) {n m : Nat} {f : List Int → Option Value} (hm : MapFn n w m f) : some m ≠ v.ownBlock := by
  intro e1
  obtain ⟨inner, ho⟩ := Kd.R_own h
  obtain ⟨cells, hc⟩ := own_typed ho m e1.symm
  obtain ⟨arr, clock, h1, _⟩ := hm
  rw [h1] at hc
  cases hc
theorem MapFn.grown {n : Nat} {w w1 : World} {m : Nat} {f : List Int → Option Value} (h : MapFn n w m f) {row : Option Nat} (hg : w.grownBy w1 row) (hne : some m ≠ row) : MapFn n w1 m f := h.same (hg.block m h.lt hne)
theorem MapFn.set {n : Nat} {w : World} {m : Nat} {f : List Int → Option Value} (h : MapFn n w m f) (p : Addr) (u : Value) (hne : m ≠ p.block) : MapFn n (w.setCell p u) m f := h.same (Below.heap_setCell _ _ _ _ hne)

/-! ### rows of eight whole numbers -/
/-- a row's cells (missing numbers: 0) -/
def el (l : List Int) (i : Nat) : Int := l.getD i 0
def rowA (l : List Int) : Array Value := #[.int .i64 (el l 0), .int .i64 (el l 1), .int .i64 (el l 2), .int .i64 (el l 3), .int .i64 (el l 4), .int .i64 (el l 5), .int .i64 (el l 6), .int .i64 (el l 7)]
theorem rowA_get (l : List Int) (k : Nat) (h : k < 8) : (rowA l)[k]? = some (.int .i64 (el l k)) := by
  match k, h with
  | 0, _ => rfl
  | 1, _ => rfl
  | 2, _ => rfl
  | 3, _ => rfl
  | 4, _ => rfl
  | 5, _ => rfl
  | 6, _ => rfl
  | 7, _ => rfl
theorem row_cells {w : World} {g t : Nat} {l : List Int} (h : w.heap[g]? = some (.cells (rowA l) t (0, 0))) :
    w.cell? ⟨g, 0, none⟩ = some (.int .i64 (el l 0)) ∧ w.cell? ⟨g, 1, none⟩ = some (.int .i64 (el l 1)) ∧ w.cell? ⟨g, 2, none⟩ = some (.int .i64 (el l 2)) ∧ w.cell? ⟨g, 3, none⟩ = some (.int .i64 (el l 3)) ∧
    w.cell? ⟨g, 4, none⟩ = some (.int .i64 (el l 4)) ∧ w.cell? ⟨g, 5, none⟩ = some (.int .i64 (el l 5)) ∧ w.cell? ⟨g, 6, none⟩ = some (.int .i64 (el l 6)) ∧ w.cell? ⟨g, 7, none⟩ = some (.int .i64 (el l 7)) :=
  ⟨blk_cell h 0, blk_cell h 1, blk_cell h 2, blk_cell h 3, blk_cell h 4, blk_cell h 5, blk_cell h 6, blk_cell h 7⟩
theorem el_take (l : List Int) (k : Nat) : el (l.take k) k = 0 := by simp [el, List.getElem?_take]
theorem rowA_set (l : List Int) (k : Nat) (h : k < l.length) (h8 : l.length ≤ 8) : (rowA (l.take k)).setIfInBounds k (.int .i64 (rd l k)) = rowA (l.take (k + 1)) := by
  apply Array.ext_getElem?
  intro i
  by_cases hi : i < 8
  · rw [rowA_get _ _ hi]
    by_cases e : k = i
    · subst e
      rw [Array.getElem?_setIfInBounds_self_of_lt (by show k < 8; omega)]
      simp [el, rd, List.getElem?_take, h]
    · rw [Array.getElem?_setIfInBounds_ne e, rowA_get _ _ hi]
      simp only [el, List.getD, List.getElem?_take]
      by_cases h1 : i < k
      · rw [if_pos h1, if_pos (by omega)]
      · rw [if_neg h1, if_neg (by omega)]
  · rw [Array.getElem?_eq_none (by simp [rowA]; omega), Array.getElem?_eq_none (by simp [rowA]; omega)]
theorem row_one (l : List Int) : (rowA l).all (·.oneCell') = true := by simp [rowA, Value.oneCell']
theorem at_nat {w : World} {A : Option Addr} {n : Nat} {l : List Int} (h : Kd.C (Kd.int .i64) w A n l) (k : Nat) (hk : k < n) : ∃ ad, A = some ad ∧ w.cell? (ad.add k) = some (.int .i64 (rd l k)) := by
  have := Kd.at_int h (k : Int) (by omega) (by omega)
  simpa using this

end Go.Proofs.YtdllacjkacmghaaDoorH
