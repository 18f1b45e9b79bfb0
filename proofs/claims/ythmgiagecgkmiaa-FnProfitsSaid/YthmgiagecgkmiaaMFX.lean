import Derived.Test.YthmgiagecgkmiaaMFB
import Derived.Test.YthmgiagecgkmiaaMFD
import Derived.Test.YthmgiagecgkmiaaQx18
import Derived.Test.YthmgiagecgkmiaaQx8888801
/-! What is asked of the best months and of the longest run of losses. -/
namespace Go.Proofs.Ythmgiagecgkmiaa.M
open Go.RowKit Go.Proofs.Ythmgiagecgkmiaa.Q Go.Proofs.YthmgiagecgkmiaaW.PrintWords Go.Proofs.YthmgiagecgkmiaaW.PrintLast Go.Proofs.YthmgiagecgkmiaaW.Pl Classical
set_option linter.unusedSimpArgs false
set_option linter.unusedVariables false

theorem mo_lt (l : List S25) (hg : goodM l = true) : ∀ j i, i < j → j < l.length → mo l i < mo l j := by
  unfold goodM at hg
  rw [Bool.and_eq_true, range_all] at hg
  intro j
  induction j with
  | zero => intro i h; omega
  | succ j ih =>
    intro i h hj
    have h1 := hg.2 (j + 1) hj
    rw [Bool.and_eq_true, Bool.or_eq_true, decide_eq_true_iff, decide_eq_true_iff, Nat.add_sub_cancel] at h1
    have h2 : mo l j < mo l (j + 1) := by
      rcases h1.2 with h2 | h2
      · omega
      · exact h2
    by_cases e : i = j
    · subst e; exact h2
    · have := ih i (by omega) (by omega); omega
theorem money (l : List S25) (hg : goodM l = true) (i : Nat) (hi : i < l.length) : (0 ≤ (nth l i z25).f4 ∧ (nth l i z25).f4 ≤ 100000000) ∧ (0 ≤ (nth l i z25).f5 ∧ (nth l i z25).f5 ≤ 100000000) := by
  unfold goodM at hg
  rw [Bool.and_eq_true, range_all] at hg
  have := hg.2 i hi
  rw [Bool.and_eq_true] at this
  have h2 := this.1
  unfold okR okM at h2
  have h3 := of_decide_eq_true h2
  exact ⟨h3.2.2.2.2.2.1, h3.2.2.2.2.2.2⟩
theorem mem_months (l : List S25) (b : Int) (n : Nat) (x : Int) : x ∈ monthsOf l b n ↔ ∃ i, i < n ∧ pr l i = b ∧ mo l i = x := by
  induction n with
  | zero => simp [monthsOf]
  | succ n ih =>
    rw [monthsOf_succ]
    by_cases h : pr l n = b
    · rw [if_pos h, List.mem_append, ih, List.mem_singleton]
      constructor
      · rintro (⟨i, h1, h2, h3⟩ | h1)
        · exact ⟨i, by omega, h2, h3⟩
        · exact ⟨n, by omega, h, h1.symm⟩
      · rintro ⟨i, h1, h2, h3⟩
        by_cases e : i = n
        · subst e; exact Or.inr h3.symm
        · exact Or.inl ⟨i, by omega, h2, h3⟩
    · rw [if_neg h, ih]
      constructor
      · rintro ⟨i, h1, h2, h3⟩; exact ⟨i, by omega, h2, h3⟩
      · rintro ⟨i, h1, h2, h3⟩
        by_cases e : i = n
        · subst e; exact absurd h2 h
        · exact ⟨i, by omega, h2, h3⟩
theorem rdI (L : List Int) (i : Nat) (h : i < L.length) : rd L (i : Int) = L[i] := by unfold rd; simp [h]
theorem hasE (L : List Int) (x : Int) (hL : L.length ≤ 1048576) : Ev (fun k => laws_rHas.f k L x) (decide (x ∈ L)) := by
  have main : ∀ d (i : Nat), L.length - i = d → i ≤ L.length → Ev (fun k => laws_rHas.l0 k L x (i : Int)) (decide (x ∈ L.drop i)) := by
    intro d
    induction d with
    | zero =>
      intro i hd hi
      have : i = L.length := by omega
      subst this
      refine Ev.succ ?_
      simp only [laws_rHas.l0, if_neg (show ¬ ((L.length : Int) < (L.length : Int)) by omega)]
      rw [decide_eq_false (by rw [List.drop_length]; simp)]
      exact Ev.now _
    | succ d ih =>
      intro i hd hi
      have hlt : i < L.length := by omega
      have e : L.drop i = L[i] :: L.drop (i + 1) := List.drop_eq_getElem_cons hlt
      refine Ev.succ ?_
      simp only [laws_rHas.l0, if_pos (show (i : Int) < (L.length : Int) by omega), if_pos (show (0 : Int) ≤ (i : Int) by omega), rdI L i hlt, (show wrap64 ((i : Int) + 1) = ((i + 1 : Nat) : Int) by rw [w64 (by omega)]; omega)]
      by_cases hx : L[i] = x
      · simp only [if_pos hx]
        rw [decide_eq_true (by rw [e, hx]; exact List.mem_cons_self)]
        exact Ev.now _
      · simp only [if_neg hx]
        rw [show decide (x ∈ L.drop i) = decide (x ∈ L.drop (i + 1)) from by
          rw [decide_eq_decide, e, List.mem_cons]
          exact ⟨fun h => h.elim (fun h => absurd h.symm hx) id, Or.inr⟩]
        exact ih (i + 1) (by omega) (by omega)
  exact main L.length 0 (by omega) (by omega)
theorem sameE (L : List Int) (hL : L.length ≤ 1048576) : Ev (fun k => laws_rInts.f k L L) true := by
  unfold laws_rInts.f
  simp only [if_true]
  have main : ∀ d (i : Nat), L.length - i = d → i ≤ L.length → Ev (fun k => laws_rInts.l0 k L L (i : Int)) true := by
    intro d
    induction d with
    | zero =>
      intro i hd hi
      refine Ev.succ ?_
      simp only [laws_rInts.l0, if_neg (show ¬ ((i : Int) < (L.length : Int)) by omega)]
      exact Ev.now _
    | succ d ih =>
      intro i hd hi
      refine Ev.succ ?_
      simp only [laws_rInts.l0, if_pos (show (i : Int) < (L.length : Int) by omega), if_pos (show (0 : Int) ≤ (i : Int) by omega), if_true, (show wrap64 ((i : Int) + 1) = ((i + 1 : Nat) : Int) by rw [w64 (by omega)]; omega)]
      exact ih (i + 1) (by omega) (by omega)
  exact main L.length 0 (by omega) (by omega)
/-- A run of losses: the months from one to another, each a loss. -/
def RunOf (l : List S25) (f t : Int) : Prop := ∃ s n : Nat, 1 ≤ n ∧ s + n ≤ l.length ∧ t = f + (n : Int) - 1 ∧ ∀ k, k < n → mo l (s + k) = f + (k : Int) ∧ prd l (s + k) < 0
theorem runS (l : List S25) (hg : goodM l = true) : ∀ d (i : Nat) (e : Int) (b r : Nat), l.length - i = d → i ≤ l.length → b ≤ i → r ≤ i →
    (b = 0 ∨ ∃ s, s + b ≤ i ∧ ∀ k, k < b → mo l (s + k) = e - (b : Int) + 1 + (k : Int) ∧ prd l (s + k) < 0) →
    (∀ k, k < r → mo l (i - r + k) = mo l (i - 1) - (r : Int) + 1 + (k : Int) ∧ prd l (i - r + k) < 0) →
    ∃ q : Int × Int × Bool, Ev (fun k => spec_LossRun.l0 k l e (b : Int) (r : Int) (i : Int)) q ∧ (q.2.2 = true → RunOf l q.1 q.2.1) := by
  have hl := len_bound l hg
  intro d
  induction d with
  | zero =>
    intro i e b r hd hi hb hr hB hR
    have hil : i = l.length := by omega
    subst hil
    rcases hB with hb0 | ⟨s, hs, hB⟩
    · refine ⟨(0, 0, false), Ev.succ ?_, fun h => by cases h⟩
      simp only [spec_LossRun.l0, if_neg (show ¬ ((l.length : Int) < (l.length : Int)) by omega), if_pos (show (b : Int) = 0 by omega)]
      exact Ev.now _
    · by_cases hb0 : b = 0
      · refine ⟨(0, 0, false), Ev.succ ?_, fun h => by cases h⟩
        simp only [spec_LossRun.l0, if_neg (show ¬ ((l.length : Int) < (l.length : Int)) by omega), if_pos (show (b : Int) = 0 by omega)]
        exact Ev.now _
      · have h1 := (hB 0 (by omega)).1
        have h2 := mo_bound l hg (s + 0) (by omega)
        refine ⟨(e - (b : Int) + 1, e, true), Ev.succ ?_, fun _ => ⟨s, b, by omega, hs, by show e = _; omega, hB⟩⟩
        simp only [spec_LossRun.l0, if_neg (show ¬ ((l.length : Int) < (l.length : Int)) by omega), if_neg (show ¬ ((b : Int) = 0) by omega)]
        rw [w64 (x := e - (b : Int)) (by omega), w64 (x := e - (b : Int) + 1) (by omega)]
        exact Ev.now _
  | succ d ih =>
    intro i e b r hd hi hb hr hB hR
    have hlt : i < l.length := by clear hB; omega
    have n1 : l.length - (i + 1) = d := by clear hB; omega
    have n2 : b ≤ 12 := by clear hB; omega
    have n3 : r ≤ 12 := by clear hB; omega
    have n4 : (0 : Int) ≤ (b : Int) ∧ (b : Int) ≤ 12 := by clear hB; omega
    have n5 : (0 : Int) ≤ (r : Int) ∧ (r : Int) ≤ 12 := by clear hB; omega
    have hB1 : b = 0 ∨ ∃ s, s + b ≤ i + 1 ∧ ∀ k, k < b → mo l (s + k) = e - (b : Int) + 1 + (k : Int) ∧ prd l (s + k) < 0 := by
      rcases hB with h | ⟨s, hs, h⟩
      · exact Or.inl h
      · exact Or.inr ⟨s, by omega, h⟩
    by_cases hp : prd l i ≥ 0
    · obtain ⟨q, hq, hQ⟩ := ih (i + 1) e b 0 n1 hlt (Nat.le_succ_of_le hb) (Nat.zero_le _) hB1 (fun k hk => absurd hk (Nat.not_lt_zero k))
      refine ⟨q, ?_, hQ⟩
      refine sStep l hl hg i hlt e b r _ n4 n5 q rfl ?_
      simp only [if_pos hp]
      exact hq
    · have hm : ∃ m : Nat, m ≤ i ∧ (m : Int) = (if 0 < i ∧ mo l i ≠ mo l (i - 1) + 1 then 0 else (r : Int)) ∧ ∀ k, k < m + 1 → mo l (i - m + k) = mo l i - ((m + 1 : Nat) : Int) + 1 + (k : Int) ∧ prd l (i - m + k) < 0 := by
        by_cases hc : 0 < i ∧ mo l i ≠ mo l (i - 1) + 1
        · refine ⟨0, by omega, by rw [if_pos hc]; rfl, fun k hk => ?_⟩
          have : k = 0 := by omega
          subst this
          simp only [Nat.sub_zero, Nat.add_zero]
          omega
        · refine ⟨r, hr, by rw [if_neg hc], fun k hk => ?_⟩
          by_cases hk2 : k < r
          · have h1 := hR k hk2
            have h2 : mo l i = mo l (i - 1) + 1 := by
              apply Classical.byContradiction
              intro h
              exact hc ⟨by omega, h⟩
            omega
          · have : k = r := by omega
            subst this
            rw [show i - k + k = i by omega]
            omega
      obtain ⟨m, hmi, hm0, hmR⟩ := hm
      have hR1 : ∀ k, k < m + 1 → mo l (i + 1 - (m + 1) + k) = mo l (i + 1 - 1) - ((m + 1 : Nat) : Int) + 1 + (k : Int) ∧ prd l (i + 1 - (m + 1) + k) < 0 := by
        rw [show i + 1 - (m + 1) = i - m by omega, Nat.add_sub_cancel]
        exact hmR
      by_cases h2 : (m : Int) + 1 > (b : Int)
      · obtain ⟨q, hq, hQ⟩ := ih (i + 1) (mo l i) (m + 1) (m + 1) n1 hlt (Nat.succ_le_succ hmi) (Nat.succ_le_succ hmi) (Or.inr ⟨i - m, by clear hB hB1 hm0; omega, hmR⟩) hR1
        refine ⟨q, ?_, hQ⟩
        refine sStep l hl hg i hlt e b r (m : Int) n4 n5 q hm0 ?_
        simp only [if_neg hp, if_pos h2]
        exact hq
      · obtain ⟨q, hq, hQ⟩ := ih (i + 1) e b (m + 1) n1 hlt (Nat.le_succ_of_le hb) (Nat.succ_le_succ hmi) hB1 hR1
        refine ⟨q, ?_, hQ⟩
        refine sStep l hl hg i hlt e b r (m : Int) n4 n5 q hm0 ?_
        simp only [if_neg hp, if_neg h2]
        exact hq
theorem evUnique {α : Type} {g : Nat → Option α} {a b : α} (h1 : Ev g a) (h2 : Ev g b) : a = b := by
  obtain ⟨n, h1⟩ := h1
  obtain ⟨m, h2⟩ := h2
  have e1 := h1 (max n m) (by omega)
  have e2 := h2 (max n m) (by omega)
  rw [e1] at e2
  exact Option.some.inj e2
theorem lossProp (l : List S25) (hm : l.length ≤ 1048576) (q : Int × Int × Bool) (h : Ev (fun k => spec_LossRun.f k l) q) (hq : q.2.2 = true) : goodM l = true ∧ RunOf l q.1 q.2.1 := by
  by_cases hg : goodM l = true
  · obtain ⟨q', h1, h2⟩ := runS l hg l.length 0 0 0 0 (by omega) (by omega) (by omega) (by omega) (Or.inl rfl) (fun k hk => by omega)
    have h3 : Ev (fun k => spec_LossRun.f k l) q' := by
      unfold spec_LossRun.f
      refine Ev.bind (sGood l hm) ?_
      simp only [hg, if_true]
      exact h1
    have := evUnique h h3
    subst this
    exact ⟨hg, h2 hq⟩
  · have h3 : Ev (fun k => spec_LossRun.f k l) (0, 0, false) := by
      unfold spec_LossRun.f
      refine Ev.bind (sGood l hm) ?_
      simp only [hg, if_false, Bool.false_eq_true]
      exact Ev.now _
    have := evUnique h h3
    subst this
    cases hq
end Go.Proofs.Ythmgiagecgkmiaa.M
