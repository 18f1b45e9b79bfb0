import Derived.Test.YthmgiagecgkmiaaDoorV1
/-! Plain laws on loops, for every chapter. -/
namespace Go.Proofs.YthmgiagecgkmiaaDoorW.Pl
open Go.RowKit Go.Proofs.YthmgiagecgkmiaaDoorW.PrintWords Classical

theorem w64 {x : Int} (h : -9223372036854775808 ≤ x ∧ x ≤ 9223372036854775807) : wrap64 x = x := by unfold wrap64; omega
theorem mul_b {a b A B : Int} (h0 : 0 ≤ a) (h1 : a ≤ A) (k0 : 0 ≤ b) (k1 : b ≤ B) : 0 ≤ a * b ∧ a * b ≤ A * B :=
  ⟨Int.mul_nonneg h0 k0, Int.mul_le_mul h1 k1 k0 (by omega)⟩

/-- A loop that fills a list place by place. -/
theorem fill_gen {α β : Type} (l : List α) (conv : α → β) (loop : Nat → List β → Int → Option (List β))
    (hstep : ∀ k (acc : List β) (i : Nat) (hi : i < l.length), acc.length = l.length → loop (k + 1) acc (i : Int) = loop k (acc.set i (conv l[i])) ((i + 1 : Nat) : Int))
    (hend : ∀ k (acc : List β), loop (k + 1) acc (l.length : Int) = some acc) (k : Nat) (hk : l.length < k) (acc : List β) (hacc : acc.length = l.length) : loop k acc 0 = some (l.map conv) := by
  have main : ∀ d (i : Nat) (k : Nat) (acc : List β), l.length - i = d → i ≤ l.length → d < k → acc.length = l.length → (∀ j (hj : j < i) (h2 : j < acc.length) (h3 : j < l.length), acc[j] = conv l[j]) → loop k acc (i : Int) = some (l.map conv) := by
    intro d
    induction d with
    | zero =>
      intro i k acc hd hi hk ha hj
      obtain ⟨k, rfl⟩ : ∃ m, k = m + 1 := ⟨k - 1, by omega⟩
      have : i = l.length := by omega
      subst this
      rw [hend]
      congr 1
      apply List.ext_getElem (by simp [ha])
      intro j h1 h2
      simp only [List.getElem_map]
      exact hj j (by omega) h1 (by omega)
    | succ d ih =>
      intro i k acc hd hi hk ha hj
      obtain ⟨k, rfl⟩ : ∃ m, k = m + 1 := ⟨k - 1, by omega⟩
      rw [hstep k acc i (by omega) ha]
      refine ih (i + 1) k _ (by omega) (by omega) (by omega) (by simp [ha]) ?_
      intro j h1 h2 h3
      by_cases e : j = i
      · subst e; simp
      · rw [List.getElem_set_ne (by omega)]
        exact hj j (by omega) (by simpa using h2) h3
  exact main l.length 0 k acc (by omega) (by omega) hk hacc (fun j hj => by omega)

/-- A loop that looks at all places from the first on, and stops at a bad one. -/
theorem scan_gen {γ : Type} (n : Nat) (ok : Nat → Bool) (e bad : γ) (loop : Nat → Int → Option γ)
    (hstep : ∀ k (i : Nat), i < n → loop (k + 1) (i : Int) = if ok i = true then loop k ((i + 1 : Nat) : Int) else some bad)
    (hend : ∀ k, loop (k + 1) (n : Int) = some e) (k : Nat) (hk : n < k) : loop k 0 = some (if (List.range n).all ok = true then e else bad) := by
  have main : ∀ d (i : Nat) (k : Nat), n - i = d → i ≤ n → d < k → loop k (i : Int) = some (if (∀ j, i ≤ j → j < n → ok j = true) then e else bad) := by
    intro d
    induction d with
    | zero =>
      intro i k hd hi hk
      obtain ⟨k, rfl⟩ : ∃ m, k = m + 1 := ⟨k - 1, by omega⟩
      have : i = n := by omega
      subst this
      rw [hend, if_pos (fun j h1 h2 => by omega)]
    | succ d ih =>
      intro i k hd hi hk
      obtain ⟨k, rfl⟩ : ∃ m, k = m + 1 := ⟨k - 1, by omega⟩
      rw [hstep k i (by omega)]
      by_cases ho : ok i = true
      · rw [if_pos ho, ih (i + 1) k (by omega) (by omega) (by omega)]
        congr 1
        by_cases hall : ∀ j, i ≤ j → j < n → ok j = true
        · rw [if_pos hall, if_pos (fun j h1 h2 => hall j (by omega) h2)]
        · rw [if_neg hall, if_neg (fun h => hall (fun j h1 h2 => by
            by_cases e : j = i
            · subst e; exact ho
            · exact h j (by omega) h2))]
      · rw [if_neg ho, if_neg (fun h => ho (h i (by omega) (by omega)))]
  have := main n 0 k (by omega) (by omega) hk
  rw [show (0 : Int) = ((0 : Nat) : Int) from rfl, this]
  congr 1
  by_cases hall : ∀ j, 0 ≤ j → j < n → ok j = true
  · rw [if_pos hall, if_pos (List.all_eq_true.2 (fun j hj => hall j (by omega) (by simpa using hj)))]
  · rw [if_neg hall, if_neg (fun h => hall (fun j _ h2 => List.all_eq_true.1 h j (by simpa using h2)))]

/-- A loop that looks at all places from the last on down to the second, and stops at a bad one. -/
theorem down_gen {γ : Type} (n : Nat) (ok : Nat → Bool) (e bad : γ) (loop : Nat → Int → Option γ)
    (hstep : ∀ k (i : Nat), 0 < i → i < n → loop (k + 1) (i : Int) = if ok i = true then loop k ((i : Int) - 1) else some bad)
    (hend : ∀ k (i : Int), i ≤ 0 → -1 ≤ i → loop (k + 1) i = some e) (k : Nat) (hk : n < k) : loop k ((n : Int) - 1) = some (if (∀ j, 0 < j → j < n → ok j = true) then e else bad) := by
  have main : ∀ (i : Nat) (k : Nat), i < n → i < k → loop k (i : Int) = some (if (∀ j, 0 < j → j ≤ i → ok j = true) then e else bad) := by
    intro i
    induction i with
    | zero =>
      intro k hi hk
      obtain ⟨k, rfl⟩ : ∃ m, k = m + 1 := ⟨k - 1, by omega⟩
      rw [hend k _ (by omega) (by omega), if_pos (fun j h1 h2 => by omega)]
    | succ i ih =>
      intro k hi hk
      obtain ⟨k, rfl⟩ : ∃ m, k = m + 1 := ⟨k - 1, by omega⟩
      rw [hstep k (i + 1) (by omega) hi]
      by_cases ho : ok (i + 1) = true
      · rw [if_pos ho, show ((i + 1 : Nat) : Int) - 1 = (i : Int) by omega, ih k (by omega) (by omega)]
        congr 1
        by_cases hall : ∀ j, 0 < j → j ≤ i → ok j = true
        · rw [if_pos hall, if_pos (fun j h1 h2 => by
            by_cases e : j = i + 1
            · subst e; exact ho
            · exact hall j h1 (by omega))]
        · rw [if_neg hall, if_neg (fun h => hall (fun j h1 h2 => h j h1 (by omega)))]
      · rw [if_neg ho, if_neg (fun h => ho (h (i + 1) (by omega) (by omega)))]
  by_cases hn : n = 0
  · subst hn
    obtain ⟨k, rfl⟩ : ∃ m, k = m + 1 := ⟨k - 1, by omega⟩
    rw [hend k _ (by omega) (by omega), if_pos (fun j h1 h2 => by omega)]
  · rw [show (n : Int) - 1 = ((n - 1 : Nat) : Int) by omega, main (n - 1) k (by omega) (by omega)]
    congr 1
    by_cases hall : ∀ j, 0 < j → j < n → ok j = true
    · rw [if_pos hall, if_pos (fun j h1 h2 => hall j h1 (by omega))]
    · rw [if_neg hall, if_neg (fun h => hall (fun j h1 h2 => h j h1 (by omega)))]

/-- A loop that fills a list place by place. -/
theorem fillC {α β : Type} (c : Nat) (l : List α) (conv : α → β) (loop : Nat → List β → Int → Option (List β))
    (hstep : ∀ k (acc : List β) (i : Nat) (hi : i < l.length), c ≤ k → acc.length = l.length → loop (k + 1) acc (i : Int) = loop k (acc.set i (conv l[i])) ((i + 1 : Nat) : Int))
    (hend : ∀ k (acc : List β), c ≤ k → loop (k + 1) acc (l.length : Int) = some acc) (k : Nat) (hk : l.length + c < k) (acc : List β) (hacc : acc.length = l.length) : loop k acc 0 = some (l.map conv) := by
  have main : ∀ d (i : Nat) (k : Nat) (acc : List β), l.length - i = d → i ≤ l.length → d + c < k → acc.length = l.length → (∀ j (hj : j < i) (h2 : j < acc.length) (h3 : j < l.length), acc[j] = conv l[j]) → loop k acc (i : Int) = some (l.map conv) := by
    intro d
    induction d with
    | zero =>
      intro i k acc hd hi hk ha hj
      obtain ⟨k, rfl⟩ : ∃ m, k = m + 1 := ⟨k - 1, by omega⟩
      have : i = l.length := by omega
      subst this
      rw [hend _ _ (by omega)]
      congr 1
      apply List.ext_getElem (by simp [ha])
      intro j h1 h2
      simp only [List.getElem_map]
      exact hj j (by omega) h1 (by omega)
    | succ d ih =>
      intro i k acc hd hi hk ha hj
      obtain ⟨k, rfl⟩ : ∃ m, k = m + 1 := ⟨k - 1, by omega⟩
      rw [hstep k acc i (by omega) (by omega) ha]
      refine ih (i + 1) k _ (by omega) (by omega) (by omega) (by simp [ha]) ?_
      intro j h1 h2 h3
      by_cases e : j = i
      · subst e; simp
      · rw [List.getElem_set_ne (by omega)]
        exact hj j (by omega) (by simpa using h2) h3
  exact main l.length 0 k acc (by omega) (by omega) hk hacc (fun j hj => by omega)

/-- A loop that looks at all places from the first on, and stops at a bad one. -/
theorem scanC {γ : Type} (c n : Nat) (ok : Nat → Bool) (e bad : γ) (loop : Nat → Int → Option γ)
    (hstep : ∀ k (i : Nat), i < n → c ≤ k → loop (k + 1) (i : Int) = if ok i = true then loop k ((i + 1 : Nat) : Int) else some bad)
    (hend : ∀ k, c ≤ k → loop (k + 1) (n : Int) = some e) (k : Nat) (hk : n + c < k) : loop k 0 = some (if (List.range n).all ok = true then e else bad) := by
  have main : ∀ d (i : Nat) (k : Nat), n - i = d → i ≤ n → d + c < k → loop k (i : Int) = some (if (∀ j, i ≤ j → j < n → ok j = true) then e else bad) := by
    intro d
    induction d with
    | zero =>
      intro i k hd hi hk
      obtain ⟨k, rfl⟩ : ∃ m, k = m + 1 := ⟨k - 1, by omega⟩
      have : i = n := by omega
      subst this
      rw [hend _ (by omega), if_pos (fun j h1 h2 => by omega)]
    | succ d ih =>
      intro i k hd hi hk
      obtain ⟨k, rfl⟩ : ∃ m, k = m + 1 := ⟨k - 1, by omega⟩
      rw [hstep k i (by omega) (by omega)]
      by_cases ho : ok i = true
      · rw [if_pos ho, ih (i + 1) k (by omega) (by omega) (by omega)]
        congr 1
        by_cases hall : ∀ j, i ≤ j → j < n → ok j = true
        · rw [if_pos hall, if_pos (fun j h1 h2 => hall j (by omega) h2)]
        · rw [if_neg hall, if_neg (fun h => hall (fun j h1 h2 => by
            by_cases e : j = i
            · subst e; exact ho
            · exact h j (by omega) h2))]
      · rw [if_neg ho, if_neg (fun h => ho (h i (by omega) (by omega)))]
  have := main n 0 k (by omega) (by omega) hk
  rw [show (0 : Int) = ((0 : Nat) : Int) from rfl, this]
  congr 1
  by_cases hall : ∀ j, 0 ≤ j → j < n → ok j = true
  · rw [if_pos hall, if_pos (List.all_eq_true.2 (fun j hj => hall j (by omega) (by simpa using hj)))]
  · rw [if_neg hall, if_neg (fun h => hall (fun j _ h2 => List.all_eq_true.1 h j (by simpa using h2)))]

/-- A loop that looks at all places from the last on down to the second, and stops at a bad one. -/
theorem downC {γ : Type} (c n : Nat) (ok : Nat → Bool) (e bad : γ) (loop : Nat → Int → Option γ)
    (hstep : ∀ k (i : Nat), 0 < i → i < n → c ≤ k → loop (k + 1) (i : Int) = if ok i = true then loop k ((i : Int) - 1) else some bad)
    (hend : ∀ k (i : Int), i ≤ 0 → -1 ≤ i → c ≤ k → loop (k + 1) i = some e) (k : Nat) (hk : n + c < k) : loop k ((n : Int) - 1) = some (if (∀ j, 0 < j → j < n → ok j = true) then e else bad) := by
  have main : ∀ (i : Nat) (k : Nat), i < n → i + c < k → loop k (i : Int) = some (if (∀ j, 0 < j → j ≤ i → ok j = true) then e else bad) := by
    intro i
    induction i with
    | zero =>
      intro k hi hk
      obtain ⟨k, rfl⟩ : ∃ m, k = m + 1 := ⟨k - 1, by omega⟩
      rw [hend k _ (by omega) (by omega) (by omega), if_pos (fun j h1 h2 => by omega)]
    | succ i ih =>
      intro k hi hk
      obtain ⟨k, rfl⟩ : ∃ m, k = m + 1 := ⟨k - 1, by omega⟩
      rw [hstep k (i + 1) (by omega) hi (by omega)]
      by_cases ho : ok (i + 1) = true
      · rw [if_pos ho, show ((i + 1 : Nat) : Int) - 1 = (i : Int) by omega, ih k (by omega) (by omega)]
        congr 1
        by_cases hall : ∀ j, 0 < j → j ≤ i → ok j = true
        · rw [if_pos hall, if_pos (fun j h1 h2 => by
            by_cases e : j = i + 1
            · subst e; exact ho
            · exact hall j h1 (by omega))]
        · rw [if_neg hall, if_neg (fun h => hall (fun j h1 h2 => h j h1 (by omega)))]
      · rw [if_neg ho, if_neg (fun h => ho (h (i + 1) (by omega) (by omega)))]
  by_cases hn : n = 0
  · subst hn
    obtain ⟨k, rfl⟩ : ∃ m, k = m + 1 := ⟨k - 1, by omega⟩
    rw [hend k _ (by omega) (by omega) (by omega), if_pos (fun j h1 h2 => by omega)]
  · rw [show (n : Int) - 1 = ((n - 1 : Nat) : Int) by omega, main (n - 1) k (by omega) (by omega)]
    congr 1
    by_cases hall : ∀ j, 0 < j → j < n → ok j = true
    · rw [if_pos hall, if_pos (fun j h1 h2 => hall j h1 (by omega))]
    · rw [if_neg hall, if_neg (fun h => hall (fun j h1 h2 => h j h1 (by omega)))]

/-- A place of a list (a word that simp leaves alone). -/
def nth {α : Type} (l : List α) (i : Nat) (z : α) : α := l.getD i z
theorem nth_get {α : Type} {l : List α} {i : Nat} {z : α} (h : i < l.length) : nth l i z = l[i] := by
  unfold nth; rw [List.getD_eq_getElem?_getD, List.getElem?_eq_getElem h]; rfl
theorem nth_map {α β : Type} {f : α → β} {l : List α} {i : Nat} {z : α} {y : β} (h : i < l.length) : nth (l.map f) i y = f (nth l i z) := by
  rw [nth_get h, nth_get (by simpa using h)]; simp
theorem nth_mem {α : Type} {l : List α} {i : Nat} {z : α} (h : i < l.length) : nth l i z ∈ l := by rw [nth_get h]; exact List.getElem_mem h
theorem all_iff_nth {α : Type} {l : List α} {p : α → Bool} (z : α) : l.all p = true ↔ ∀ i, i < l.length → p (nth l i z) = true := by
  rw [List.all_eq_true]
  constructor
  · intro h i hi
    rw [nth_get hi]; exact h _ (List.getElem_mem hi)
  · intro h x hx
    obtain ⟨i, hi, rfl⟩ := List.getElem_of_mem hx
    have := h i hi
    rwa [nth_get hi] at this
theorem range_all {n : Nat} {p : Nat → Bool} : (List.range n).all p = true ↔ ∀ i, i < n → p i = true := by
  rw [List.all_eq_true]; simp
/-- What the size's check lets in. -/
theorem sz_small {n : Nat} (hm : n ≤ maxLen) : (wrap64 (1048576 - (n : Int)) < 0) ↔ 1048576 < n := by
  unfold maxLen at hm
  rw [w64 (by omega)]; omega
/-! ### with 'from some number of rounds on' -/
theorem Ev.succ {α : Type} {g : Nat → Option α} {r : α} (h : Ev (fun k => g (k + 1)) r) : Ev g r := Ev.step (fun _ => rfl) h
theorem Ev.c {α : Type} {x : Option α} {r : α} (h : x = some r) : Ev (fun _ => x) r := ⟨0, fun _ _ => h⟩
theorem Ev.bindc {α β : Type} {x : Option α} {f : Nat → α → Option β} {a : α} {r : β} (h : x = some a) (k : Ev (fun n => f n a) r) : Ev (fun n => x.bind (f n)) r := Ev.bind (Ev.c h) k
theorem scanE {γ : Type} (n : Nat) (ok : Nat → Bool) (e bad : γ) (loop : Nat → Int → Option γ)
    (hs : ∀ (i : Nat) (r : γ), i < n → ok i = true → Ev (fun k => loop k ((i + 1 : Nat) : Int)) r → Ev (fun k => loop k (i : Int)) r)
    (hb : ∀ (i : Nat), i < n → ok i = false → Ev (fun k => loop k (i : Int)) bad)
    (he : Ev (fun k => loop k (n : Int)) e) : Ev (fun k => loop k 0) (if (List.range n).all ok = true then e else bad) := by
  have main : ∀ d (i : Nat), n - i = d → i ≤ n → Ev (fun k => loop k (i : Int)) (if (∀ j, i ≤ j → j < n → ok j = true) then e else bad) := by
    intro d
    induction d with
    | zero =>
      intro i hd hi
      have : i = n := by omega
      subst this
      rw [if_pos (fun j h1 h2 => by omega)]; exact he
    | succ d ih =>
      intro i hd hi
      cases ho : ok i with
      | true =>
        refine hs i _ (by omega) ho ?_
        have := ih (i + 1) (by omega) (by omega)
        by_cases hall : ∀ j, i ≤ j → j < n → ok j = true
        · rw [if_pos hall]; rwa [if_pos (fun j h1 h2 => hall j (by omega) h2)] at this
        · rw [if_neg hall]; rwa [if_neg (fun h => hall (fun j h1 h2 => by
            by_cases e : j = i
            · subst e; exact ho
            · exact h j (by omega) h2))] at this
      | false =>
        rw [if_neg (fun h => by have := h i (by omega) (by omega); rw [ho] at this; cases this)]
        exact hb i (by omega) ho
  have := main n 0 (by omega) (by omega)
  by_cases hall : ∀ j, 0 ≤ j → j < n → ok j = true
  · rw [if_pos hall] at this
    rw [if_pos (List.all_eq_true.2 (fun j hj => hall j (by omega) (by simpa using hj)))]
    exact this
  · rw [if_neg hall] at this
    rw [if_neg (fun h => hall (fun j _ h2 => List.all_eq_true.1 h j (by simpa using h2)))]
    exact this
/-- A loop with a state, over all places. -/
theorem foldE {σ γ : Type} (n : Nat) (f : Nat → σ → σ) (loop : Nat → σ → Int → Option γ) (r : σ → γ)
    (hs : ∀ (i : Nat) (s : σ) (q : γ), i < n → Ev (fun k => loop k (f i s) ((i + 1 : Nat) : Int)) q → Ev (fun k => loop k s (i : Int)) q)
    (he : ∀ s, Ev (fun k => loop k s (n : Int)) (r s)) (s : σ) : Ev (fun k => loop k s 0) (r ((List.range n).foldl (fun s i => f i s) s)) := by
  have main : ∀ d (i : Nat) (s : σ), n - i = d → i ≤ n → Ev (fun k => loop k s (i : Int)) (r ((List.range' i (n - i)).foldl (fun s i => f i s) s)) := by
    intro d
    induction d with
    | zero =>
      intro i s hd hi
      have : i = n := by omega
      subst this
      simpa using he s
    | succ d ih =>
      intro i s hd hi
      refine hs i s _ (by omega) ?_
      have := ih (i + 1) (f i s) (by omega) (by omega)
      rwa [show n - i = (n - (i + 1)) + 1 by omega, List.range'_succ, List.foldl_cons]
  have := main n 0 s (by omega) (by omega)
  rwa [Nat.sub_zero, ← List.range_eq_range'] at this
/-- As foldE, where what is reached so far stays within bounds. -/
theorem foldI {σ γ : Type} (n : Nat) (I : Nat → σ → Prop) (f : Nat → σ → σ) (loop : Nat → σ → Int → Option γ) (r : σ → γ)
    (hi : ∀ i s, i < n → I i s → I (i + 1) (f i s))
    (hs : ∀ (i : Nat) (s : σ) (q : γ), i < n → I i s → Ev (fun k => loop k (f i s) ((i + 1 : Nat) : Int)) q → Ev (fun k => loop k s (i : Int)) q)
    (he : ∀ s, I n s → Ev (fun k => loop k s (n : Int)) (r s)) (s : σ) (h0 : I 0 s) : Ev (fun k => loop k s 0) (r ((List.range n).foldl (fun s i => f i s) s)) ∧ I n ((List.range n).foldl (fun s i => f i s) s) := by
  have main : ∀ d (i : Nat) (s : σ), n - i = d → i ≤ n → I i s → Ev (fun k => loop k s (i : Int)) (r ((List.range' i (n - i)).foldl (fun s i => f i s) s)) ∧ I n ((List.range' i (n - i)).foldl (fun s i => f i s) s) := by
    intro d
    induction d with
    | zero =>
      intro i s hd hn hI
      have : i = n := by omega
      subst this
      simpa using And.intro (he s hI) hI
    | succ d ih =>
      intro i s hd hn hI
      have := ih (i + 1) (f i s) (by omega) (by omega) (hi i s (by omega) hI)
      rw [show n - i = (n - (i + 1)) + 1 by omega, List.range'_succ, List.foldl_cons]
      exact ⟨hs i s _ (by omega) hI this.1, this.2⟩
  have := main n 0 s (by omega) (by omega) h0
  rwa [Nat.sub_zero, ← List.range_eq_range'] at this
/-- One step of a store, beside what follows. -/
theorem bindLen {α γ : Type} {n : Nat} (a : List α) (F : List α → Nat → Option γ) (G : List α → Nat → Option γ) (h : a.length = n) (hF : ∀ a' : List α, a'.length = n → ∃ b : List α, b.length = n ∧ ∀ k, F a' k = G b k) : ∃ b : List α, b.length = n ∧ ∀ k, ((some a).bind fun y => F y k) = G b k := hF a h
theorem stepI (n : Nat) (h : n < 4611686018427387904) : wrap64 ((n : Int) + 1) = ((n + 1 : Nat) : Int) := by
  rw [w64 (by omega)]
  rfl
/-- Tests that arithmetic decides. -/
theorem ifp {α : Type} {c : Prop} [Decidable c] {a b : α} (h : c) : (if c then a else b) = a := if_pos h
theorem ifn {α : Type} {c : Prop} [Decidable c] {a b : α} (h : ¬ c) : (if c then a else b) = b := if_neg h
theorem predI (n : Nat) (h : 1 ≤ n ∧ n < 4611686018427387904) : wrap64 ((n : Int) - 1) = ((n - 1 : Nat) : Int) := by
  rw [w64 (by omega)]
  omega
end Go.Proofs.YthmgiagecgkmiaaDoorW.Pl
