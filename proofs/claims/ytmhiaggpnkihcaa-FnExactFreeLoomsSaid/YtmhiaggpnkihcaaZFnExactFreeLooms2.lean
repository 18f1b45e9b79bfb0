import Derived.Shelf.Abstract
import Derived.Deep.LoopGhost
import Derived.Test.YtmhiaggpnkihcaaZFnExactFreeLooms1
namespace Go.Proofs.YtmhiaggpnkihcaaW.PrintWords
open Go.Proofs.YtmhiaggpnkihcaaW.PrintLast
/-- Where the first element is of which p holds; -1. -/
def idx {α : Type} (p : α → Bool) (l : List α) : Int := match l.findIdx? p with | some i => (i : Int) | none => -1
theorem idx_hit {α : Type} {p : α → Bool} {l : List α} {k : Nat} (hk : k < l.length) (h : p (l[k]) = true) (hb : ∀ j (hj : j < k), p (l[j]'(by omega)) = false) : idx p l = k := by
  have : l.findIdx? p = some k := by
    rw [List.findIdx?_eq_some_iff_getElem]
    exact ⟨hk, h, fun j hj => by simp [hb j hj]⟩
  unfold idx; rw [this]
theorem idx_miss {α : Type} {p : α → Bool} {l : List α} (hb : ∀ j (hj : j < l.length), p (l[j]) = false) : idx p l = -1 := by
  have : l.findIdx? p = none := by
    rw [List.findIdx?_eq_none_iff]
    intro x hx
    obtain ⟨i, hi, rfl⟩ := List.getElem_of_mem hx
    simp [hb i hi]
  unfold idx; rw [this]
theorem idx_nonneg {α : Type} (p : α → Bool) (l : List α) : decide (0 ≤ idx p l) = l.any p := by
  unfold idx
  cases h : l.findIdx? p with
  | none =>
    rw [List.findIdx?_eq_none_iff] at h
    have : l.any p = false := by rw [List.any_eq_false]; intro x hx; simp [h x hx]
    rw [this]; rfl
  | some i =>
    have h' := (List.findIdx?_eq_some_iff_getElem.1 h)
    obtain ⟨hi, hp, _⟩ := h'
    have : l.any p = true := List.any_eq_true.2 ⟨_, List.getElem_mem hi, hp⟩
    rw [this]; simp
end Go.Proofs.YtmhiaggpnkihcaaW.PrintWords

