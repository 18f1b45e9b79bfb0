import Derived.Test.YtmhiaggpnkihcaaDoorMTP
import Derived.Test.YtmhiaggpnkihcaaDoorQx10
import Derived.Test.YtmhiaggpnkihcaaDoorQx13
import Derived.Test.YtmhiaggpnkihcaaDoorQx14
import Derived.Test.YtmhiaggpnkihcaaDoorQx17
import Derived.Test.YtmhiaggpnkihcaaDoorQx19
import Derived.Test.YtmhiaggpnkihcaaDoorQx21
import Derived.Test.YtmhiaggpnkihcaaDoorQx23
import Derived.Test.YtmhiaggpnkihcaaDoorQx26
import Derived.Test.YtmhiaggpnkihcaaDoorQx8888801
namespace Go.Proofs.YtmhiaggpnkihcaaDoor.M
open Go.RowKit Go.Proofs.YtmhiaggpnkihcaaDoor.Q Go.Proofs.YtmhiaggpnkihcaaDoorW.PrintWords Go.Proofs.YtmhiaggpnkihcaaDoorW.PrintLast Go.Proofs.YtmhiaggpnkihcaaDoorW.Pl Classical
set_option linter.unusedSimpArgs false
set_option linter.unusedVariables false
theorem l1In (a b c : Int) : spec_l1In.f a b c = some (decide (b ≤ a ∧ a ≤ c)) := by
  unfold spec_l1In.f
  by_cases h : b ≤ a <;> by_cases h2 : a ≤ c <;> simp [h, h2]
theorem iIn (a b c : Int) : impl_in.f a b c = some (decide (b ≤ a ∧ a ≤ c)) := by
  unfold impl_in.f
  by_cases h : b ≤ a <;> by_cases h2 : a ≤ c <;> simp [h, h2]
theorem rd39 (l : List S39) (i : Nat) : rd_T39 l (i : Int) = nth l i z39 := by unfold rd_T39 nth; simp
theorem rd48 (l : List S48) (i : Nat) : rd_T48 l (i : Int) = nth l i z48 := by unfold rd_T48 nth; simp
/-- A valid carpet. -/
def okC (day looms a b c d e : Int) : Bool := decide ((1 ≤ a ∧ a ≤ 500) ∧ (0 ≤ b ∧ b ≤ a) ∧ (0 ≤ c ∧ c ≤ 4) ∧ (0 ≤ e ∧ e ≤ day) ∧ ((c = 1 ∧ 1 ≤ d ∧ d ≤ looms) ∨ (c = 0 ∧ d = 0 ∧ b = 0) ∨ (c ≠ 0 ∧ c ≠ 1 ∧ d = 0 ∧ b = a)))
theorem sCarpet (k : Nat) (day looms m : Int) (l : List S39) (a b c d e : Int) : spec_l25Carpet.f (k + 1) day looms l m a b c d e = some (okC day looms a b c d e) := by
  unfold spec_l25Carpet.f okC
  simp only [l1In, Option.bind_some]
  by_cases h1 : (1 ≤ a ∧ a ≤ 500) ∧ (0 ≤ b ∧ b ≤ a) ∧ (0 ≤ c ∧ c ≤ 4) ∧ (0 ≤ e ∧ e ≤ day)
  · obtain ⟨h1, h2, h3, h4⟩ := h1
    simp only [h1, h2, h3, h4, and_self, true_and, decide_true, if_true, Bool.not_true, spec_l25Carpet.j0, Bool.false_eq_true, if_false, l1In, Option.bind_some]
    by_cases c1 : c = 1
    · simp [c1]
    · by_cases c0 : c = 0
      · by_cases d0 : d = 0 <;> by_cases b0 : b = 0 <;> simp [c0, d0, b0]
      · by_cases d0 : d = 0 <;> by_cases b0 : b = a <;> simp [c0, c1, d0, b0]
  · by_cases g1 : 1 ≤ a ∧ a ≤ 500 <;> by_cases g2 : 0 ≤ b ∧ b ≤ a <;> by_cases g3 : 0 ≤ c ∧ c ≤ 4 <;> by_cases g4 : 0 ≤ e ∧ e ≤ day
    · exact absurd ⟨g1, g2, g3, g4⟩ h1
    all_goals simp only [g1, g2, g3, g4, and_self, true_and, false_and, and_false, decide_true, decide_false, if_true, if_false, Bool.false_eq_true, Bool.not_false, Bool.not_true, spec_l25Carpet.j0]
theorem iCarpet (k : Nat) (day looms m : Int) (l : List S39) (a b c d e : Int) : impl_Shop_isCarpet.f (k + 1) day looms l m a b c d e = some (okC day looms a b c d e) := by
  unfold impl_Shop_isCarpet.f okC
  simp only [iIn, Option.bind_some]
  by_cases h1 : (1 ≤ a ∧ a ≤ 500) ∧ (0 ≤ b ∧ b ≤ a) ∧ (0 ≤ c ∧ c ≤ 4) ∧ (0 ≤ e ∧ e ≤ day)
  · obtain ⟨h1, h2, h3, h4⟩ := h1
    simp only [h1, h2, h3, h4, and_self, true_and, decide_true, if_true, Bool.not_true, impl_Shop_isCarpet.j0, Bool.false_eq_true, if_false, iIn, Option.bind_some]
    by_cases c1 : c = 1
    · simp [c1]
    · by_cases c0 : c = 0
      · by_cases d0 : d = 0 <;> by_cases b0 : b = 0 <;> simp [c0, d0, b0]
      · by_cases d0 : d = 0 <;> by_cases b0 : b = a <;> simp [c0, c1, d0, b0]
  · by_cases g1 : 1 ≤ a ∧ a ≤ 500 <;> by_cases g2 : 0 ≤ b ∧ b ≤ a <;> by_cases g3 : 0 ≤ c ∧ c ≤ 4 <;> by_cases g4 : 0 ≤ e ∧ e ≤ day
    · exact absurd ⟨g1, g2, g3, g4⟩ h1
    all_goals simp only [g1, g2, g3, g4, and_self, true_and, false_and, and_false, decide_true, decide_false, if_true, if_false, Bool.false_eq_true, Bool.not_false, Bool.not_true, impl_Shop_isCarpet.j0]
theorem sCarpetE (day looms m : Int) (l : List S39) (a b c d e : Int) : Ev (fun k => spec_l25Carpet.f k day looms l m a b c d e) (okC day looms a b c d e) := Ev.succ ⟨0, fun k _ => sCarpet k day looms m l a b c d e⟩
theorem iCarpetE (day looms m : Int) (l : List S39) (a b c d e : Int) : Ev (fun k => impl_Shop_isCarpet.f k day looms l m a b c d e) (okC day looms a b c d e) := Ev.succ ⟨0, fun k _ => iCarpet k day looms m l a b c d e⟩
def cvC (x : S48) : S39 := ⟨x.f0, x.f1, x.f2, x.f3, x.f4⟩
theorem toCarpets (l : List S48) (hm : l.length ≤ 1048576) : Ev (fun k => laws_toCarpetS.f k l) (l.map cvC) := by
  refine ⟨l.length + 1, fun k hk => ?_⟩
  show laws_toCarpetS.f k l = _
  unfold laws_toCarpetS.f
  rw [if_pos (by omega), if_pos (by omega)]
  have h := fill_gen l cvC (fun k acc i => laws_toCarpetS.l0 k l acc i) ?hstep ?hend k hk (List.replicate l.length z39) (by simp)
  case hstep =>
    intro k acc i hi ha
    simp only [laws_toCarpetS.l0]
    rw [if_pos (by omega), if_pos (by omega), rd48, nth_get hi]
    simp only [laws_toCarpet.f, Option.bind_some]
    rw [if_pos (by omega), w64 (x := (i : Int) + 1) (by omega)]
    rfl
  case hend =>
    intro k acc
    simp [laws_toCarpetS.l0]
  simpa using h
theorem eqCarpets (l : List S39) (hm : l.length ≤ 1048576) : Ev (fun k => laws_eqCarpetS.f k l l) true := by
  unfold laws_eqCarpetS.f
  simp only [if_true]
  have h := scanE l.length (fun _ => true) true false (fun k i => laws_eqCarpetS.l0 k l l i) ?hs ?hb ?he
  case hs =>
    intro i r hi _ hr
    refine Ev.succ ?_
    simp only [laws_eqCarpetS.l0, laws_eqCarpet.f, if_pos (show (i : Int) < (l.length : Int) by omega), if_pos (show (0 : Int) ≤ (i : Int) by omega), if_true, Option.bind_some, w64 (x := (i : Int) + 1) (by omega)]
    exact hr
  case hb => intro i _ h; cases h
  case he =>
    refine Ev.succ ?_
    simp only [laws_eqCarpetS.l0, if_neg (show ¬ ((l.length : Int) < (l.length : Int)) by omega)]
    exact Ev.now _
  simpa using h
theorem szShop (a b d : Int) (l : List S48) (hm : l.length ≤ maxLen) : ∃ r, laws_szShop.f a b l d 1048576 = some r ∧ (r < 0 ↔ 1048576 < l.length) := by
  unfold laws_szShop.f laws_szCarpetS.f
  have := sz_small hm
  by_cases h : wrap64 (1048576 - (l.length : Int)) < 0
  · exact ⟨-1, by rw [if_pos h]; rfl, by rw [← this]; exact ⟨fun _ => h, fun _ => by omega⟩⟩
  · exact ⟨_, by rw [if_neg h, Option.bind_some, if_neg h], this⟩
/-- A loop that finds a bad place. -/
theorem scanBad {γ : Type} (n : Nat) (ok : Nat → Bool) (bad : γ) (loop : Nat → Int → Option γ)
    (hs : ∀ (i : Nat) (r : γ), i < n → ok i = true → Ev (fun k => loop k ((i + 1 : Nat) : Int)) r → Ev (fun k => loop k (i : Int)) r)
    (hb : ∀ (i : Nat), i < n → ok i = false → Ev (fun k => loop k (i : Int)) bad) (h : (List.range n).all ok = false) : Ev (fun k => loop k 0) bad := by
  have main : ∀ d (i : Nat), n - i = d → (∃ j, i ≤ j ∧ j < n ∧ ok j = false) → Ev (fun k => loop k (i : Int)) bad := by
    intro d
    induction d with
    | zero => intro i hd ⟨j, h1, h2, _⟩; omega
    | succ d ih =>
      intro i hd ⟨j, h1, h2, h3⟩
      cases hq : ok i with
      | false => exact hb i (by omega) hq
      | true =>
        refine hs i bad (by omega) hq (ih (i + 1) (by omega) ⟨j, ?_, h2, h3⟩)
        by_cases e : j = i
        · subst e; rw [hq] at h3; cases h3
        · omega
  refine main n 0 (by omega) ?_
  apply Classical.byContradiction
  intro hn
  rw [Bool.eq_false_iff] at h
  apply h
  rw [range_all]
  intro i hi
  cases hq : ok i with
  | true => rfl
  | false => exact absurd ⟨i, by omega, hi, hq⟩ hn
/-- What a place of the list needs: a valid carpet, and a loom of its own. -/
def freeAt (l : List S39) (i : Nat) : Bool := (List.range i).all fun j => !(decide ((nth l i z39).f3 > 0) && decide ((nth l j z39).f3 = (nth l i z39).f3))
def okAt (day looms : Int) (l : List S39) (i : Nat) : Bool := okC day looms (nth l i z39).f0 (nth l i z39).f1 (nth l i z39).f2 (nth l i z39).f3 (nth l i z39).f4 && freeAt l i
def goodS (day looms : Int) (l : List S39) (m : Int) : Bool := decide ((0 ≤ day ∧ day ≤ 4000) ∧ (1 ≤ looms ∧ looms ≤ 4) ∧ (0 ≤ m ∧ m ≤ 1000000) ∧ l.length ≤ 8) && (List.range l.length).all fun i => okAt day looms l i
theorem sInStep (day looms m : Int) (l : List S39) (hl : l.length ≤ 8) (i : Nat) (hi : i < l.length) (j : Nat) (r : Bool) (hj : j < i)
    (hok : (!(decide ((nth l i z39).f3 > 0) && decide ((nth l j z39).f3 = (nth l i z39).f3))) = true)
    (h : Ev (fun k => spec_l25Good.l1 k (i : Int) ((j + 1 : Nat) : Int) day looms l m) r) : Ev (fun k => spec_l25Good.l1 k (i : Int) (j : Int) day looms l m) r := by
  refine Ev.succ ?_
  simp only [spec_l25Good.l1, if_pos (show (j : Int) < (i : Int) by omega), if_pos (show (0 : Int) ≤ (i : Int) by omega), if_pos (show (i : Int) < (l.length : Int) by omega), if_pos (show (0 : Int) ≤ (j : Int) by omega), if_pos (show (j : Int) < (l.length : Int) by omega), rd39, (show wrap64 ((j : Int) + 1) = ((j + 1 : Nat) : Int) by rw [w64 (by omega)]; omega)]
  by_cases h1 : (nth l i z39).f3 > 0
  · by_cases h2 : (nth l j z39).f3 = (nth l i z39).f3
    · simp [h1, h2] at hok
    · simp only [if_pos h1, if_neg h2]; exact h
  · simp only [if_neg h1]; exact h
theorem sInBad (day looms m : Int) (l : List S39) (hl : l.length ≤ 8) (i : Nat) (hi : i < l.length) (j : Nat) (hj : j < i)
    (hok : (!(decide ((nth l i z39).f3 > 0) && decide ((nth l j z39).f3 = (nth l i z39).f3))) = false) : Ev (fun k => spec_l25Good.l1 k (i : Int) (j : Int) day looms l m) false := by
  refine Ev.succ ?_
  rw [Bool.not_eq_false', Bool.and_eq_true, decide_eq_true_eq, decide_eq_true_eq] at hok
  simp only [spec_l25Good.l1, if_pos (show (j : Int) < (i : Int) by omega), if_pos (show (0 : Int) ≤ (i : Int) by omega), if_pos (show (i : Int) < (l.length : Int) by omega), if_pos (show (0 : Int) ≤ (j : Int) by omega), if_pos (show (j : Int) < (l.length : Int) by omega), rd39, if_pos hok.1, if_pos hok.2]
  exact Ev.now _
theorem sLoop (day looms m : Int) (l : List S39) (hl : l.length ≤ 8) : Ev (fun k => spec_l25Good.l0 k 0 day looms l m) ((List.range l.length).all fun i => okAt day looms l i) := by
  have h := scanE l.length (fun i => okAt day looms l i) true false (fun k i => spec_l25Good.l0 k i day looms l m) ?hs ?hb ?he
  case hs =>
    intro i r hi hok hr
    unfold okAt at hok
    rw [Bool.and_eq_true] at hok
    refine Ev.succ ?_
    simp only [spec_l25Good.l0, if_pos (show (i : Int) < (l.length : Int) by omega), if_pos (show (0 : Int) ≤ (i : Int) by omega), rd39]
    refine Ev.bind (sCarpetE day looms m l _ _ _ _ _) ?_
    simp only [hok.1, if_true]
    have h2 := scanE i (fun j => !(decide ((nth l i z39).f3 > 0) && decide ((nth l j z39).f3 = (nth l i z39).f3))) r false (fun k j => spec_l25Good.l1 k (i : Int) j day looms l m) ?hs2 ?hb2 ?he2
    case hs2 => exact fun j r hj hok h => sInStep day looms m l hl i hi j r hj hok h
    case hb2 => exact fun j hj hok => sInBad day looms m l hl i hi j hj hok
    case he2 =>
      refine Ev.succ ?_
      simp only [spec_l25Good.l1, if_neg (show ¬ ((i : Int) < (i : Int)) by omega), (show wrap64 ((i : Int) + 1) = ((i + 1 : Nat) : Int) by rw [w64 (by omega)]; omega)]
      exact hr
    have h3 := hok.2
    unfold freeAt at h3
    rw [h3] at h2
    exact h2
  case hb =>
    intro i hi hok
    refine Ev.succ ?_
    simp only [spec_l25Good.l0, if_pos (show (i : Int) < (l.length : Int) by omega), if_pos (show (0 : Int) ≤ (i : Int) by omega), rd39]
    refine Ev.bind (sCarpetE day looms m l _ _ _ _ _) ?_
    unfold okAt at hok
    cases hc : okC day looms (nth l i z39).f0 (nth l i z39).f1 (nth l i z39).f2 (nth l i z39).f3 (nth l i z39).f4 with
    | false => simp only [Bool.false_eq_true, if_false]; exact Ev.now _
    | true =>
      rw [hc, Bool.true_and] at hok
      simp only [if_true]
      unfold freeAt at hok
      exact scanBad i _ false (fun k j => spec_l25Good.l1 k (i : Int) j day looms l m) (fun j r hj hok h => sInStep day looms m l hl i hi j r hj hok h) (fun j hj hok => sInBad day looms m l hl i hi j hj hok) hok
  case he =>
    refine Ev.succ ?_
    simp only [spec_l25Good.l0, if_neg (show ¬ ((l.length : Int) < (l.length : Int)) by omega)]
    exact Ev.now _
  rw [show ((List.range l.length).all fun i => okAt day looms l i) = if ((List.range l.length).all fun i => okAt day looms l i) = true then true else false by cases ((List.range l.length).all fun i => okAt day looms l i) <;> rfl]
  simpa using h
/-- As scanE, where all places before are known to be good. -/
theorem scanP {γ : Type} (n : Nat) (ok : Nat → Bool) (e bad : γ) (loop : Nat → Int → Option γ)
    (hs : ∀ (i : Nat) (r : γ), i < n → (∀ j, j < i → ok j = true) → ok i = true → Ev (fun k => loop k ((i + 1 : Nat) : Int)) r → Ev (fun k => loop k (i : Int)) r)
    (hb : ∀ (i : Nat), i < n → (∀ j, j < i → ok j = true) → ok i = false → Ev (fun k => loop k (i : Int)) bad)
    (he : Ev (fun k => loop k (n : Int)) e) : Ev (fun k => loop k 0) (if (List.range n).all ok = true then e else bad) := by
  have main : ∀ d (i : Nat), n - i = d → i ≤ n → (∀ j, j < i → ok j = true) → Ev (fun k => loop k (i : Int)) (if (List.range n).all ok = true then e else bad) := by
    intro d
    induction d with
    | zero =>
      intro i hd hi hp
      have hin : i = n := by omega
      subst hin
      rw [if_pos (range_all.2 hp)]
      exact he
    | succ d ih =>
      intro i hd hi hp
      cases hq : ok i with
      | false =>
        rw [if_neg (fun h => by have := range_all.1 h i (by omega); rw [hq] at this; cases this)]
        exact hb i (by omega) hp hq
      | true =>
        refine hs i _ (by omega) hp hq (ih (i + 1) (by omega) (by omega) (fun j hj => ?_))
        by_cases e : j = i
        · subst e; exact hq
        · exact hp j (by omega)
  exact main n 0 (by omega) (by omega) (fun j hj => by omega)
theorem idx_before {α : Type} {p : α → Bool} {l : List α} {i : Nat} (h : idx p l = (i : Int)) : ∀ j (hj : j < l.length), j < i → p (l[j]) = false := by
  intro j hj hji
  unfold idx at h
  cases hf : l.findIdx? p with
  | none => rw [hf] at h; simp only at h; omega
  | some m =>
    rw [hf] at h
    have hm : m = i := by simp only at h; omega
    subst hm
    rw [List.findIdx?_eq_some_iff_getElem] at hf
    obtain ⟨_, _, h3⟩ := hf
    have := h3 j hji
    simpa using this
theorem okC_loom {day looms a b c d e : Int} (h : okC day looms a b c d e = true) : (c = 1 → 1 ≤ d) ∧ (d > 0 → c = 1) := by
  unfold okC at h
  have := of_decide_eq_true h
  omega
theorem onLoom_first (day looms m : Int) (l : List S39) (i : Nat) (hi : i < l.length) (hp : ∀ j, j < i → okAt day looms l j = true) (hc : okC day looms (nth l i z39).f0 (nth l i z39).f1 (nth l i z39).f2 (nth l i z39).f3 (nth l i z39).f4 = true) (h1 : (nth l i z39).f2 = 1) :
    (idx (fun x : S39 => decide (x.f2 = 1) && decide (x.f3 = (nth l i z39).f3)) l = (i : Int)) ↔ freeAt l i = true := by
  have hpos := (okC_loom hc).1 h1
  unfold freeAt
  rw [range_all]
  constructor
  · intro h j hj
    have h2 := idx_before h j (by omega) hj
    have h3 := hp j hj
    unfold okAt at h3
    rw [Bool.and_eq_true] at h3
    have h4 := (okC_loom h3.1).2
    rw [nth_get (show j < l.length by omega)] at h4 ⊢
    by_cases a1 : (l[j]).f3 = (nth l i z39).f3
    · rw [decide_eq_true (h4 (by omega)), decide_eq_true a1] at h2; cases h2
    · rw [decide_eq_false a1, Bool.and_false]; rfl
  · intro h
    refine idx_hit hi ?_ (fun j hj => ?_)
    · rw [nth_get hi] at h1 ⊢
      rw [decide_eq_true h1, decide_eq_true rfl]; rfl
    · have h2 := h j hj
      rw [nth_get (show j < l.length by omega)] at h2
      rw [decide_eq_true (show (nth l i z39).f3 > 0 by omega), Bool.true_and] at h2
      cases a1 : decide ((l[j]'(by omega)).f3 = (nth l i z39).f3) with
      | true => rw [a1] at h2; cases h2
      | false => rw [Bool.and_false]
theorem free_other (day looms : Int) (l : List S39) (i : Nat) (hc : okC day looms (nth l i z39).f0 (nth l i z39).f1 (nth l i z39).f2 (nth l i z39).f3 (nth l i z39).f4 = true) (h1 : ¬ (nth l i z39).f2 = 1) : freeAt l i = true := by
  unfold freeAt
  rw [range_all]
  intro j hj
  have h3 : ¬ ((nth l i z39).f3 > 0) := fun h => h1 ((okC_loom hc).2 h)
  rw [decide_eq_false h3, Bool.false_and]; rfl
theorem iLoop (day looms m : Int) (l : List S39) (hl : l.length ≤ 8) : Ev (fun k => impl_IsShop.l0 k l (l.length : Int) 0 day looms l m) ((List.range l.length).all fun i => okAt day looms l i) := by
  have h := scanP l.length (fun i => okAt day looms l i) true false (fun k i => impl_IsShop.l0 k l (l.length : Int) i day looms l m) ?hs ?hb ?he
  case hs =>
    intro i r hi hp hok hr
    unfold okAt at hok
    rw [Bool.and_eq_true] at hok
    refine Ev.succ ?_
    simp only [impl_IsShop.l0, if_pos (show (i : Int) < (l.length : Int) by omega), if_pos (show (0 : Int) ≤ (i : Int) by omega), rd39]
    refine Ev.bind (iCarpetE day looms m l _ _ _ _ _) ?_
    simp only [hok.1, if_true, impl_Shop_onLoom.f, Option.bind_some, (show wrap64 ((i : Int) + 1) = ((i + 1 : Nat) : Int) by rw [w64 (by omega)]; omega)]
    by_cases h1 : (nth l i z39).f2 = 1
    · simp only [if_pos h1, if_pos ((onLoom_first day looms m l i hi hp hok.1 h1).2 hok.2)]
      exact hr
    · simp only [if_neg h1]
      exact hr
  case hb =>
    intro i hi hp hok
    refine Ev.succ ?_
    simp only [impl_IsShop.l0, if_pos (show (i : Int) < (l.length : Int) by omega), if_pos (show (0 : Int) ≤ (i : Int) by omega), rd39]
    refine Ev.bind (iCarpetE day looms m l _ _ _ _ _) ?_
    unfold okAt at hok
    cases hc : okC day looms (nth l i z39).f0 (nth l i z39).f1 (nth l i z39).f2 (nth l i z39).f3 (nth l i z39).f4 with
    | false => simp only [Bool.false_eq_true, if_false]; exact Ev.now _
    | true =>
      rw [hc, Bool.true_and] at hok
      simp only [if_true, impl_Shop_onLoom.f, Option.bind_some]
      by_cases h1 : (nth l i z39).f2 = 1
      · have hn : ¬ (idx (fun x : S39 => decide (x.f2 = 1) && decide (x.f3 = (nth l i z39).f3)) l = (i : Int)) := fun h => by
          rw [(onLoom_first day looms m l i hi hp hc h1).1 h] at hok; cases hok
        simp only [if_pos h1, if_neg hn]
        exact Ev.now _
      · rw [free_other day looms l i hc h1] at hok; cases hok
  case he =>
    refine Ev.succ ?_
    simp only [impl_IsShop.l0, if_neg (show ¬ ((l.length : Int) < (l.length : Int)) by omega)]
    exact Ev.now _
  rw [show ((List.range l.length).all fun i => okAt day looms l i) = if ((List.range l.length).all fun i => okAt day looms l i) = true then true else false by cases ((List.range l.length).all fun i => okAt day looms l i) <;> rfl]
  simpa using h
theorem sGood (day looms m : Int) (l : List S39) : Ev (fun k => spec_l25Good.f k day looms l m) (goodS day looms l m) := by
  unfold spec_l25Good.f spec_l2Day.f goodS
  simp only [l1In, Option.bind_some]
  by_cases h1 : 0 ≤ day ∧ day ≤ 4000 <;> by_cases h2 : 1 ≤ looms ∧ looms ≤ 4 <;> by_cases h3 : 0 ≤ m ∧ m ≤ 1000000 <;> by_cases h4 : l.length ≤ 8
  · simp only [h1, h2, h3, h4, and_self, decide_true, if_true, Bool.true_and, decide_eq_false (show ¬ ((l.length : Int) > 8) by omega)]
    refine Ev.succ ?_
    simp only [spec_l25Good.j0, Bool.false_eq_true, if_false]
    exact sLoop day looms m l h4
  · simp only [h1, h2, h3, h4, and_self, and_false, decide_true, decide_false, if_true, Bool.false_and, decide_eq_true (show ((l.length : Int) > 8) by omega)]
    refine Ev.succ ?_
    simp only [spec_l25Good.j0, if_true]
    exact Ev.now _
  all_goals
    simp only [h1, h2, h3, h4, false_and, and_false, decide_true, decide_false, if_true, if_false, Bool.false_eq_true, Bool.false_and]
    refine Ev.succ ?_
    simp only [spec_l25Good.j0, if_true]
    exact Ev.now _
theorem iGood (day looms m : Int) (l : List S39) : Ev (fun k => impl_IsShop.f k day looms l m) (goodS day looms l m) := by
  unfold impl_IsShop.f impl_isDay.f goodS
  simp only [iIn, Option.bind_some]
  by_cases h1 : 0 ≤ day ∧ day ≤ 4000 <;> by_cases h2 : 1 ≤ looms ∧ looms ≤ 4 <;> by_cases h4 : l.length ≤ 8 <;> by_cases h3 : 0 ≤ m ∧ m ≤ 1000000
  · simp only [h1, h2, h3, h4, and_self, decide_true, if_true, Bool.true_and, if_neg (show ¬ ((l.length : Int) > 8) by omega), Bool.not_true]
    refine Ev.succ ?_
    simp only [impl_IsShop.j0, Bool.false_eq_true, if_false]
    exact iLoop day looms m l h4
  · simp only [h1, h2, h3, h4, and_self, false_and, and_false, decide_true, decide_false, if_true, Bool.false_and, if_neg (show ¬ ((l.length : Int) > 8) by omega), Bool.not_false]
    refine Ev.succ ?_
    simp only [impl_IsShop.j0, if_true]
    exact Ev.now _
  · simp only [h1, h2, h3, h4, and_self, and_false, decide_true, decide_false, if_true, Bool.false_and, if_pos (show ((l.length : Int) > 8) by omega)]
    refine Ev.succ ?_
    simp only [impl_IsShop.j0, if_true]
    exact Ev.now _
  · simp only [h1, h2, h3, h4, and_self, false_and, and_false, decide_true, decide_false, if_true, Bool.false_and, if_pos (show ((l.length : Int) > 8) by omega)]
    refine Ev.succ ?_
    simp only [impl_IsShop.j0, if_true]
    exact Ev.now _
  all_goals
    simp only [h1, h2, h3, h4, false_and, and_false, decide_true, decide_false, if_true, if_false, Bool.false_eq_true, Bool.false_and]
    refine Ev.succ ?_
    simp only [impl_IsShop.j0, if_true]
    exact Ev.now _
theorem good_at {day looms m : Int} {l : List S39} (h : goodS day looms l m = true) : (0 ≤ day ∧ day ≤ 4000) ∧ l.length ≤ 8 ∧ ∀ i, i < l.length → okC day looms (nth l i z39).f0 (nth l i z39).f1 (nth l i z39).f2 (nth l i z39).f3 (nth l i z39).f4 = true := by
  unfold goodS at h
  rw [Bool.and_eq_true, range_all] at h
  have h1 := of_decide_eq_true h.1
  refine ⟨h1.1, h1.2.2.2, fun i hi => ?_⟩
  have := h.2 i hi
  unfold okAt at this
  rw [Bool.and_eq_true] at this
  exact this.1
theorem okC_b {day looms a b c d e : Int} (h : okC day looms a b c d e = true) : (1 ≤ a ∧ a ≤ 500) ∧ (0 ≤ b ∧ b ≤ a) ∧ (0 ≤ c ∧ c ≤ 4) ∧ (0 ≤ e ∧ e ≤ day) := by
  unfold okC at h
  have := of_decide_eq_true h
  exact ⟨this.1, this.2.1, this.2.2.1, this.2.2.2.1⟩
theorem okC_l {day looms a b c d e : Int} (h : okC day looms a b c d e = true) : 0 ≤ d ∧ (d ≤ looms ∨ d = 0) := by
  have := of_decide_eq_true h
  omega
theorem good_l {day looms m : Int} {l : List S39} (h : goodS day looms l m = true) : looms ≤ 4 := by
  unfold goodS at h
  simp only [Bool.and_eq_true, decide_eq_true_iff] at h
  omega
/-- A carpet's text. -/
def nmT (c : Int) : ByteArray := if c = 0 then ⟨#[119, 97, 105, 116, 115]⟩ else if c = 1 then ⟨#[119, 111, 118, 101, 110]⟩ else if c = 2 then ⟨#[111, 102, 102]⟩ else if c = 3 then ⟨#[119, 97, 115, 104, 101, 100]⟩ else ⟨#[115, 111, 108, 100]⟩
theorem nmT_size (c : Int) : (nmT c).size ≤ 6 := by
  unfold nmT
  (repeat' split) <;> decide
theorem nm_at (c : Int) (h : 0 ≤ c ∧ c ≤ 4) : ([.string ⟨#[119, 97, 105, 116, 115]⟩, .string ⟨#[119, 111, 118, 101, 110]⟩, .string ⟨#[111, 102, 102]⟩, .string ⟨#[119, 97, 115, 104, 101, 100]⟩, .string ⟨#[115, 111, 108, 100]⟩] : List Go.Value)[c.toNat * 1]? = some (.string (nmT c)) := by
  have : c = 0 ∨ c = 1 ∨ c = 2 ∨ c = 3 ∨ c = 4 := by omega
  rcases this with rfl | rfl | rfl | rfl | rfl <;> rfl
def baseT (x : S39) : ByteArray := (((nmT x.f2 ++ ⟨#[32]⟩) ++ dec x.f1) ++ ⟨#[47]⟩) ++ dec x.f0
def carpT (x : S39) : ByteArray := if x.f3 > 0 then baseT x ++ (⟨#[32, 111, 110, 32]⟩ ++ dec x.f3) else baseT x
end Go.Proofs.YtmhiaggpnkihcaaDoor.M
