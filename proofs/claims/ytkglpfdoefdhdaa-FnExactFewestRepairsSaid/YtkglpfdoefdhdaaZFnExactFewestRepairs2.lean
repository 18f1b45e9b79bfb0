import Derived.Shelf.Abstract
import Derived.Deep.LoopGhost
import Derived.Lib.BufferMore
import Derived.Test.YtkglpfdoefdhdaaZFnExactFewestRepairs1
namespace Go.Proofs.YtkglpfdoefdhdaaW.PrintWords
open Go.Proofs.YtkglpfdoefdhdaaW.PrintLast
/-- Where the first element is of which p holds; -1. -/
def idx {α : Type} (p : α → Bool) (l : List α) : Int := match l.findIdx? p with | some i => (i : Int) | none => -1
theorem idx_hit {α : Type} {p : α → Bool} {l : List α} {k : Nat} (hk : k < l.length) (h : p (l[k]) = true) (hb : ∀ j (hj : j < k), p (l[j]'(by omega)) = false) : idx p l = k := by
  have : l.findIdx? p = some k := by
    rw [List.findIdx?_eq_some_iff_getElem]
    exact ⟨hk, h, fun j hj => by simp [hb j hj]⟩
  unfold idx; rw [this]
theorem idx_miss {α : Type} {p : α → Bool} {l : List α} (hb : ∀ j (hj : j < l.length), p (l[j]) = false) : idx p l = -1 := by
  have : l.findIdx? p = none := by
    rw [List.findIdx?_eq_none_iff]
    intro x hx
    obtain ⟨i, hi, rfl⟩ := List.getElem_of_mem hx
    simp [hb i hi]
  unfold idx; rw [this]
theorem idx_nonneg {α : Type} (p : α → Bool) (l : List α) : decide (0 ≤ idx p l) = l.any p := by
  unfold idx
  cases h : l.findIdx? p with
  | none =>
    rw [List.findIdx?_eq_none_iff] at h
    have : l.any p = false := by rw [List.any_eq_false]; intro x hx; simp [h x hx]
    rw [this]; rfl
  | some i =>
    have h' := (List.findIdx?_eq_some_iff_getElem.1 h)
    obtain ⟨hi, hp, _⟩ := h'
    have : l.any p = true := List.any_eq_true.2 ⟨_, List.getElem_mem hi, hp⟩
    rw [this]; simp
theorem mapM_mem {α β : Type} {f : α → Option β} : ∀ {l : List α} {bs : List β}, l.mapM f = some bs → ∀ x ∈ l, ∃ b, f x = some b
  | [], _, _ => by simp
  | a :: l, bs, h => by
    intro x hx
    simp only [List.mapM_cons, Option.bind_eq_bind, Option.bind_eq_some_iff] at h
    obtain ⟨b, hb, bs', hbs, _⟩ := h
    rcases List.mem_cons.1 hx with rfl | hx
    · exact ⟨b, hb⟩
    · exact mapM_mem hbs x hx
theorem mapM_map {α β : Type} {f : α → Option β} {g : α → β} : ∀ {l : List α}, (∀ x ∈ l, f x = some (g x)) → l.mapM f = some (l.map g)
  | [], _ => rfl
  | a :: l, h => by
    rw [List.mapM_cons, h a (by simp), mapM_map (l := l) (fun x hx => h x (List.mem_cons_of_mem _ hx))]
    rfl
theorem all_pred {α : Type} {f : α → Option Bool} {l : List α} {r : Bool} (h : (l.mapM f).map (fun bs => bs.all id) = some r) : ∃ p : α → Bool, (∀ x ∈ l, f x = some (p x)) ∧ r = l.all p := by
  obtain ⟨bs, hbs, rfl⟩ := Option.map_eq_some_iff.1 h
  refine ⟨fun x => (f x).getD false, fun x hx => ?_, ?_⟩
  · obtain ⟨b, hb⟩ := mapM_mem hbs x hx
    simp [hb]
  · have := mapM_map (f := f) (g := fun x => (f x).getD false) (l := l) (fun x hx => by obtain ⟨b, hb⟩ := mapM_mem hbs x hx; simp [hb])
    rw [hbs] at this
    rw [Option.some.inj this, List.all_map]
    rfl
/-- What 'all' answers where the predicate answers. -/
theorem all_total {α : Type} {f : α → Option Bool} {p : α → Bool} {l : List α} (h : ∀ x ∈ l, f x = some (p x)) : (l.mapM f).map (fun bs => bs.all id) = some (l.all p) := by
  rw [mapM_map h, Option.map_some, List.all_map]; rfl
/-! short names -/
theorem sS_ {α : Type} {xs : List α} {i : Nat} {v : α} : xs.toArray.setIfInBounds i v = (xs.set i v).toArray := List.setIfInBounds_toArray _ _ _
theorem sZ_ {α : Type} {a b : α} {as_ : List α} : (a :: as_).set 0 b = b :: as_ := List.set_cons_zero
theorem sC_ {α : Type} {a b : α} {as_ : List α} {n : Nat} : (a :: as_).set (n + 1) b = a :: as_.set n b := List.set_cons_succ
end Go.Proofs.YtkglpfdoefdhdaaW.PrintWords

