/- FUEL: what a printed function answers from some number of rounds on. -/
import Derived.Test.YtdllacjkacmghaaDoorWMore
namespace Go.Proofs.YtdllacjkacmghaaDoorEv
set_option linter.unusedVariables false
set_option linter.unusedSimpArgs false
open Go.RowKit Go.Proofs.YtdllacjkacmghaaDoorW.PrintWords

/-- from some fuel on it answers v -/
def Evt {α : Type} (f : Nat → Option α) (v : α) : Prop := ∃ k0, ∀ k, k0 ≤ k → f k = some v
theorem Evt.pure {α : Type} (v : α) : Evt (fun _ => some v) v := ⟨0, fun _ _ => rfl⟩
theorem Evt.of_eq {α : Type} {f : Nat → Option α} {v v' : α} (h : Evt f v) (e : v = v') : Evt f v' := e ▸ h
theorem Evt.succ {α : Type} {f : Nat → Option α} {v : α} (h : Evt (fun k => f (k + 1)) v) : Evt f v := by
  obtain ⟨k0, hk⟩ := h
  exact ⟨k0 + 1, fun k h => by obtain ⟨j, rfl⟩ : ∃ j, k = j + 1 := ⟨k - 1, by omega⟩; exact hk j (by omega)⟩
theorem Evt.bind {α β : Type} {f : Nat → Option α} {g : Nat → α → Option β} {v : α} {r : β} (h : Evt f v) (hg : Evt (fun k => g k v) r) : Evt (fun k => (f k).bind (g k)) r := by
  obtain ⟨a, ha⟩ := h
  obtain ⟨b, hb⟩ := hg
  exact ⟨max a b, fun k h => by show (f k).bind (g k) = _; rw [ha k (by omega)]; exact hb k (by omega)⟩
theorem Evt.map {α β : Type} {f : Nat → Option α} {g : α → β} {v : α} (h : Evt f v) : Evt (fun k => (f k).map g) (g v) := by
  obtain ⟨a, ha⟩ := h
  exact ⟨a, fun k h => by show (f k).map g = _; rw [ha k h]; rfl⟩
theorem Evt.of_mono {α : Type} {f : Nat → Option α} {v : α} (hm : ∀ k, LeO (f k) (f (k + 1))) {k : Nat} (h : f k = some v) : Evt f v :=
  ⟨k, fun j hj => by
    induction j with
    | zero => rw [show k = 0 by omega] at h; exact h
    | succ j ih => by_cases e : k = j + 1
                   · rw [← e]; exact h
                   · exact hm j v (ih (by omega))⟩
theorem Evt.ite {α : Type} {c : Prop} [Decidable c] {f g : Nat → Option α} {v : α} (h1 : c → Evt f v) (h2 : ¬ c → Evt g v) : Evt (fun k => if c then f k else g k) v := by
  by_cases h : c
  · simp only [if_pos h]; exact h1 h
  · simp only [if_neg h]; exact h2 h
theorem Evt.pos {α : Type} {c : Prop} [Decidable c] {f g : Nat → Option α} {v : α} (h : c) (h1 : Evt f v) : Evt (fun k => if c then f k else g k) v := by simp only [if_pos h]; exact h1
theorem Evt.neg {α : Type} {c : Prop} [Decidable c] {f g : Nat → Option α} {v : α} (h : ¬ c) (h1 : Evt g v) : Evt (fun k => if c then f k else g k) v := by simp only [if_neg h]; exact h1


theorem Evt.get {α : Type} {f : Nat → Option α} {v : α} (h : Evt f v) : ∃ k, f k = some v := by
  obtain ⟨a, ha⟩ := h; exact ⟨a, ha a (Nat.le_refl _)⟩
theorem Evt.congr {α : Type} {f g : Nat → Option α} {v : α} (h : Evt f v) (e : ∀ k, g k = f k) : Evt g v := by
  rwa [show g = f from funext e]
end Go.Proofs.YtdllacjkacmghaaDoorEv
