import Derived.Test.YtembbdhhpblapaaV1
/-! Plain laws on loops, for every chapter. -/
namespace Go.Proofs.YtembbdhhpblapaaW.Pl
open Go.RowKit Go.Proofs.YtembbdhhpblapaaW.PrintWords Classical

theorem w64 {x : Int} (h : -9223372036854775808 ≤ x ∧ x ≤ 9223372036854775807) : wrap64 x = x := by unfold wrap64; omega
theorem mul_b {a b A B : Int} (h0 : 0 ≤ a) (h1 : a ≤ A) (k0 : 0 ≤ b) (k1 : b ≤ B) : 0 ≤ a * b ∧ a * b ≤ A * B :=
  ⟨Int.mul_nonneg h0 k0, Int.mul_le_mul h1 k1 k0 (by omega)⟩

/-- A loop that fills a list place by place. -/
theorem fill_gen {α β : Type} (l : List α) (conv : α → β) (loop : Nat → List β → Int → Option (List β))
    (hstep : ∀ k (acc : List β) (i : Nat) (hi : i < l.length), acc.length = l.length → loop (k + 1) acc (i : Int) = loop k (acc.set i (conv l[i])) ((i + 1 : Nat) : Int))
    (hend : ∀ k (acc : List β), loop (k + 1) acc (l.length : Int) = some acc) (k : Nat) (hk : l.length < k) (acc : List β) (hacc : acc.length = l.length) : loop k acc 0 = some (l.map conv) := by
  have main : ∀ d (i : Nat) (k : Nat) (acc : List β), l.length - i = d → i ≤ l.length → d < k → acc.length = l.length → (∀ j (hj : j < i) (h2 : j < acc.length) (h3 : j < l.length), acc[j] = conv l[j]) → loop k acc (i : Int) = some (l.map conv) := by
    intro d
    induction d with
    | zero =>
      intro i k acc hd hi hk ha hj
      obtain ⟨k, rfl⟩ : ∃ m, k = m + 1 := ⟨k - 1, by omega⟩
      have : i = l.length := by omega
      subst this
      rw [hend]
      congr 1
      apply List.ext_getElem (by simp [ha])
      intro j h1 h2
      simp only [List.getElem_map]
      exact hj j (by omega) h1 (by omega)
    | succ d ih =>
      intro i k acc hd hi hk ha hj
      obtain ⟨k, rfl⟩ : ∃ m, k = m + 1 := ⟨k - 1, by omega⟩
      rw [hstep k acc i (by omega) ha]
      refine ih (i + 1) k _ (by omega) (by omega) (by omega) (by simp [ha]) ?_
      intro j h1 h2 h3
      by_cases e : j = i
      · subst e; simp
      · rw [List.getElem_set_ne (by omega)]
        exact hj j (by omega) (by simpa using h2) h3
  exact main l.length 0 k acc (by omega) (by omega) hk hacc (fun j hj => by omega)

/-- A loop that looks at all places from the first on, and stops at a bad one. -/
theorem scan_gen {γ : Type} (n : Nat) (ok : Nat → Bool) (e bad : γ) (loop : Nat → Int → Option γ)
    (hstep : ∀ k (i : Nat), i < n → loop (k + 1) (i : Int) = if ok i = true then loop k ((i + 1 : Nat) : Int) else some bad)
    (hend : ∀ k, loop (k + 1) (n : Int) = some e) (k : Nat) (hk : n < k) : loop k 0 = some (if (List.range n).all ok = true then e else bad) := by
  have main : ∀ d (i : Nat) (k : Nat), n - i = d → i ≤ n → d < k → loop k (i : Int) = some (if (∀ j, i ≤ j → j < n → ok j = true) then e else bad) := by
    intro d
    induction d with
    | zero =>
      intro i k hd hi hk
      obtain ⟨k, rfl⟩ : ∃ m, k = m + 1 := ⟨k - 1, by omega⟩
      have : i = n := by omega
      subst this
      rw [hend, if_pos (fun j h1 h2 => by omega)]
    | succ d ih =>
      intro i k hd hi hk
      obtain ⟨k, rfl⟩ : ∃ m, k = m + 1 := ⟨k - 1, by omega⟩
      rw [hstep k i (by omega)]
      by_cases ho : ok i = true
      · rw [if_pos ho, ih (i + 1) k (by omega) (by omega) (by omega)]
        congr 1
        by_cases hall : ∀ j, i ≤ j → j < n → ok j = true
        · rw [if_pos hall, if_pos (fun j h1 h2 => hall j (by omega) h2)]
        · rw [if_neg hall, if_neg (fun h => hall (fun j h1 h2 => by
            by_cases e : j = i
            · subst e; exact ho
            · exact h j (by omega) h2))]
      · rw [if_neg ho, if_neg (fun h => ho (h i (by omega) (by omega)))]
  have := main n 0 k (by omega) (by omega) hk
  rw [show (0 : Int) = ((0 : Nat) : Int) from rfl, this]
  congr 1
  by_cases hall : ∀ j, 0 ≤ j → j < n → ok j = true
  · rw [if_pos hall, if_pos (List.all_eq_true.2 (fun j hj => hall j (by omega) (by simpa using hj)))]
  · rw [if_neg hall, if_neg (fun h => hall (fun j _ h2 => List.all_eq_true.1 h j (by simpa using h2)))]

/-- A loop that looks at all places from the last on down to the second, and stops at a bad one. -/
theorem down_gen {γ : Type} (n : Nat) (ok : Nat → Bool) (e bad : γ) (loop : Nat → Int → Option γ)
    (hstep : ∀ k (i : Nat), 0 < i → i < n → loop (k + 1) (i : Int) = if ok i = true then loop k ((i : Int) - 1) else some bad)
    (hend : ∀ k (i : Int), i ≤ 0 → -1 ≤ i → loop (k + 1) i = some e) (k : Nat) (hk : n < k) : loop k ((n : Int) - 1) = some (if (∀ j, 0 < j → j < n → ok j = true) then e else bad) := by
  have main : ∀ (i : Nat) (k : Nat), i < n → i < k → loop k (i : Int) = some (if (∀ j, 0 < j → j ≤ i → ok j = true) then e else bad) := by
    intro i
    induction i with
    | zero =>
      intro k hi hk
      obtain ⟨k, rfl⟩ : ∃ m, k = m + 1 := ⟨k - 1, by omega⟩
      rw [hend k _ (by omega) (by omega), if_pos (fun j h1 h2 => by omega)]
    | succ i ih =>
      intro k hi hk
      obtain ⟨k, rfl⟩ : ∃ m, k = m + 1 := ⟨k - 1, by omega⟩
      rw [hstep k (i + 1) (by omega) hi]
      by_cases ho : ok (i + 1) = true
      · rw [if_pos ho, show ((i + 1 : Nat) : Int) - 1 = (i : Int) by omega, ih k (by omega) (by omega)]
        congr 1
        by_cases hall : ∀ j, 0 < j → j ≤ i → ok j = true
        · rw [if_pos hall, if_pos (fun j h1 h2 => by
            by_cases e : j = i + 1
            · subst e; exact ho
            · exact hall j h1 (by omega))]
        · rw [if_neg hall, if_neg (fun h => hall (fun j h1 h2 => h j h1 (by omega)))]
      · rw [if_neg ho, if_neg (fun h => ho (h (i + 1) (by omega) (by omega)))]
  by_cases hn : n = 0
  · subst hn
    obtain ⟨k, rfl⟩ : ∃ m, k = m + 1 := ⟨k - 1, by omega⟩
    rw [hend k _ (by omega) (by omega), if_pos (fun j h1 h2 => by omega)]
  · rw [show (n : Int) - 1 = ((n - 1 : Nat) : Int) by omega, main (n - 1) k (by omega) (by omega)]
    congr 1
    by_cases hall : ∀ j, 0 < j → j < n → ok j = true
    · rw [if_pos hall, if_pos (fun j h1 h2 => hall j h1 (by omega))]
    · rw [if_neg hall, if_neg (fun h => hall (fun j h1 h2 => h j h1 (by omega)))]

/-- A place of a list (a word that simp leaves alone). -/
def nth {α : Type} (l : List α) (i : Nat) (z : α) : α := l.getD i z
theorem nth_get {α : Type} {l : List α} {i : Nat} {z : α} (h : i < l.length) : nth l i z = l[i] := by
  unfold nth; rw [List.getD_eq_getElem?_getD, List.getElem?_eq_getElem h]; rfl
theorem nth_map {α β : Type} {f : α → β} {l : List α} {i : Nat} {z : α} {y : β} (h : i < l.length) : nth (l.map f) i y = f (nth l i z) := by
  rw [nth_get h, nth_get (by simpa using h)]; simp
theorem nth_mem {α : Type} {l : List α} {i : Nat} {z : α} (h : i < l.length) : nth l i z ∈ l := by rw [nth_get h]; exact List.getElem_mem h
theorem all_iff_nth {α : Type} {l : List α} {p : α → Bool} (z : α) : l.all p = true ↔ ∀ i, i < l.length → p (nth l i z) = true := by
  rw [List.all_eq_true]
  constructor
  · intro h i hi
    rw [nth_get hi]; exact h _ (List.getElem_mem hi)
  · intro h x hx
    obtain ⟨i, hi, rfl⟩ := List.getElem_of_mem hx
    have := h i hi
    rwa [nth_get hi] at this
theorem range_all {n : Nat} {p : Nat → Bool} : (List.range n).all p = true ↔ ∀ i, i < n → p i = true := by
  rw [List.all_eq_true]; simp
/-- What the size's check lets in. -/
theorem sz_small {n : Nat} (hm : n ≤ maxLen) : (wrap64 (1048576 - (n : Int)) < 0) ↔ 1048576 < n := by
  unfold maxLen at hm
  rw [w64 (by omega)]; omega
end Go.Proofs.YtembbdhhpblapaaW.Pl
