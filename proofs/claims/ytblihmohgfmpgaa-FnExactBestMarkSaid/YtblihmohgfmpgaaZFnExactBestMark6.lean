import Derived.Deep.Slices
import Derived.ChangeArms
import Derived.DataReads
import Derived.Carry
import Derived.KernelRfl
import Derived.Laws.Tables
import Derived.Laws.Rows
import Derived.OrdersHeld
import Derived.Test.YtblihmohgfmpgaaZFnExactBestMark5
namespace Go.Proofs.YtblihmohgfmpgaaW.Open
open Go.ChangeShapes Go.WideShapes Go.Deep Go.Proofs.YtblihmohgfmpgaaW.PrintWords

/-- Whatever reads as data of type t lies in memory as a value of kind d that is good. -/
structure Opn {α : Type} (P : Program) (d : Kd α) (t : TypeId) (good : α → Prop) : Prop where
  out : ∀ {H : Type} {enc : TypeId × Value → H} {w : World} {base : Nat} {spare : Nat → Bool} {held : Bool} {fuel : Nat} {cs : List Value} {x : DataW H × List MemPlace},
    DataW.trod enc P w base spare held fuel t cs = some x → ∃ a, d.K w a cs ∧ good a

/-- One for each place: a list of them. -/
theorem list_of {α : Type} {Q : Nat → α → Prop} : ∀ {len : Nat}, (∀ i, i < len → ∃ p : α, Q i p) → ∃ l : List α, l.length = len ∧ ∀ i p, l[i]? = some p → Q i p
  | 0, _ => ⟨[], rfl, by simp⟩
  | n + 1, h => by
    obtain ⟨l, hl1, hl2⟩ := list_of (len := n) (fun i hi => h i (by omega))
    obtain ⟨p, hp⟩ := h n (by omega)
    refine ⟨l ++ [p], by simp [hl1], fun i q hq => ?_⟩
    by_cases hil : i < n
    · rw [List.getElem?_append_left (by omega)] at hq
      exact hl2 i q hq
    · have hin : i = n := by
        have := (List.getElem?_eq_some_iff.1 hq).1
        simp [hl1] at this
        omega
      subst hin
      rw [List.getElem?_append_right (by omega)] at hq
      simp [hl1] at hq
      subst hq
      exact hp

section
variable {P : Program}
theorem Opn.int {t : TypeId} {k : IntKind} (ht : P.underlying t = some (.int k)) : Opn P (Kd.int k) t (fun n => (Lit.int k n).wf = true) := by
  constructor; intro H enc w base spare held fuel cs x h
  cases fuel with
  | zero => simp [DataW.trod] at h
  | succ m =>
    unfold DataW.trod at h
    rw [ht] at h
    split at h <;> simp_all
    exact ⟨_, rfl, by simp_all⟩
theorem Opn.bool {t : TypeId} (ht : P.underlying t = some .bool) : Opn P Kd.bool t (fun _ => True) := by
  constructor; intro H enc w base spare held fuel cs x h
  cases fuel with
  | zero => simp [DataW.trod] at h
  | succ m =>
    unfold DataW.trod at h
    rw [ht] at h
    split at h
    all_goals first | exact ⟨_, rfl, trivial⟩ | simp_all
theorem Opn.slice {α : Type} {d : Kd α} {t e : TypeId} {g : α → Prop} (ht : P.underlying t = some (.slice e)) {n0 : Nat} (hc0 : P.cellsOf e = n0) (hs0 : d.sz = n0) (he : Opn P d e g) :
    Opn P (Kd.slice e d) t (fun l => l.length ≤ maxLen ∧ ∀ x ∈ l, g x) := by
  have hc : P.cellsOf e = d.sz := hc0.trans hs0.symm
  constructor; intro H enc w base spare held fuel cs x h
  rcases open_slice ht h with ⟨rfl, _⟩ | ⟨a, len, cap, m, n, D, Pl, rfl, _, hl, hm, hmm, _, hi⟩
  · exact ⟨[], ⟨none, 0, rfl, Nat.le_refl _, rfl, by simp, fun h => absurd h (by simp)⟩, by simp, by simp⟩
  · have hlm : len ≤ m := by rw [hmm]; split <;> omega
    have hone : ∀ i, i < len → ∃ p : α, g p ∧ ∃ c, c.length = d.sz ∧ d.K w p c ∧ ∀ j u, c[j]? = some u → w.cell? (a.add (i * d.sz + j)) = some u := by
      intro i hil
      obtain ⟨cs', hcs, htr⟩ := hi i (by omega)
      obtain ⟨p, hp, hg⟩ := he.out htr
      obtain ⟨_, hlen, hat⟩ := World.cells?_some hcs
      refine ⟨p, hg, cs', hlen.trans hc, hp, fun j u hj => ?_⟩
      have hjl : j < P.cellsOf e := by have := (List.getElem?_eq_some_iff.1 hj).1; omega
      have := hat j hjl
      rw [hc] at this
      rw [← Go.Deep.add_add, this, hj]
    have hall := list_of hone
    obtain ⟨l, rfl, hl2⟩ := hall
    refine ⟨l, ⟨some a, cap, rfl, hl, rfl, by unfold maxLen at hm; omega, fun _ => ⟨a, rfl, fun j p hj => (hl2 j p hj).2⟩⟩, by omega, fun x hx => ?_⟩
    obtain ⟨i, hi, rfl⟩ := List.getElem_of_mem hx
    exact (hl2 i _ (List.getElem?_eq_getElem hi)).1
theorem Opn.iso {α β : Type} {d : Kd α} {t : TypeId} {g : α → Prop} (f : β → α) (b : α → β) (hfb : ∀ a, f (b a) = a) (h : Opn P d t g) : Opn P (Kd.iso d f) t (fun x => g (f x)) := by
  constructor; intro H enc w base spare held fuel cs x hx
  obtain ⟨a, hk, hg⟩ := h.out hx
  exact ⟨b a, by show d.K w (f (b a)) cs; rw [hfb]; exact hk, by show g (f (b a)); rw [hfb]; exact hg⟩

def andG {α β : Type} (g : α → Prop) (gs : β → Prop) : α × β → Prop := fun x => g x.1 ∧ gs x.2
/-- The fields of a struct, from one on. -/
structure OpnF {α : Type} (P : Program) (d : Kd α) (off : Nat) (fs : List Field) (good : α → Prop) : Prop where
  out : ∀ {H : Type} {enc : TypeId × Value → H} {w : World} {base : Nat} {spare : Nat → Bool} {held : Bool} {fuel : Nat} {cs : List Value},
    cs.length = off + d.sz → (∀ f ∈ fs, ∃ y, DataW.trod enc P w base spare held fuel f.type ((cs.drop f.offset).take (P.cellsOf f.type)) = some y) → ∃ a, d.K w a (cs.drop off) ∧ good a
theorem OpnF.one {α : Type} {d : Kd α} {f : Field} {g : α → Prop} {off : Nat} (ho : f.offset = off) {n0 : Nat} (hc0 : P.cellsOf f.type = n0) (hs0 : d.sz = n0) (h : Opn P d f.type g) : OpnF P d off [f] g := by
  have hc : P.cellsOf f.type = d.sz := hc0.trans hs0.symm
  constructor; intro H enc w base spare held fuel cs hl hf
  obtain ⟨y, hy⟩ := hf f (by simp)
  rw [ho, hc, List.take_of_length_le (by simp; omega)] at hy
  exact h.out hy
theorem OpnF.cons {α β : Type} {d : Kd α} {ds : Kd β} {f : Field} {fs : List Field} {g : α → Prop} {gs : β → Prop} {off : Nat} (ho : f.offset = off) {n0 : Nat} (hc0 : P.cellsOf f.type = n0) (hs0 : d.sz = n0) (h : Opn P d f.type g) (hs : OpnF P ds (off + d.sz) fs gs) :
    OpnF P (Kd.pair d ds) off (f :: fs) (andG g gs) := by
  have hc : P.cellsOf f.type = d.sz := hc0.trans hs0.symm
  constructor; intro H enc w base spare held fuel cs hl hf
  obtain ⟨y, hy⟩ := hf f (by simp)
  rw [ho, hc] at hy
  obtain ⟨a, ha, hga⟩ := h.out hy
  obtain ⟨b, hb, hgb⟩ := hs.out (cs := cs) (by rw [hl]; show off + (d.sz + ds.sz) = _; omega) (fun f' hf' => hf f' (List.mem_cons_of_mem _ hf'))
  refine ⟨(a, b), ⟨_, _, ?_, ha, hb⟩, hga, hgb⟩
  rw [← List.drop_drop, List.take_append_drop]
theorem Opn.struct {α : Type} {d : Kd α} {t : TypeId} {L : List Field} {g : α → Prop} (ht : P.underlying t = some (.struct L.toArray)) {n0 : Nat} (hc0 : P.cellsOf t = n0) (hs0 : d.sz = n0) (h : OpnF P d 0 L g) : Opn P d t g := by
  have hc : P.cellsOf t = d.sz := hc0.trans hs0.symm
  constructor; intro H enc w base spare held fuel cs x hx
  obtain ⟨xs, n, _, _, hlen, hxs, hf⟩ := DataW.trod_struct ht hx
  obtain ⟨a, ha, hg⟩ := h.out (enc := enc) (w := w) (base := base) (spare := spare) (held := held) (fuel := n) (cs := cs) (by rw [hlen, hc]; omega) (fun f hm => by
    obtain ⟨i, hi, rfl⟩ := List.getElem_of_mem hm
    have h1 := hf i L[i] (by simp [hi])
    have hi2 : i < xs.length := by simp at hxs; omega
    exact ⟨xs[i], h1.trans (List.getElem?_eq_getElem hi2)⟩)
  exact ⟨a, by simpa using ha, hg⟩
end
end Go.Proofs.YtblihmohgfmpgaaW.Open

namespace Go.Proofs.Ytblihmohgfmpgaa.Q
open Go.RowKit Go.Proofs.YtblihmohgfmpgaaW.PrintWords Go.Proofs.YtblihmohgfmpgaaW.PrintLast Go.Proofs.YtblihmohgfmpgaaW.PrintMore
set_option linter.unusedVariables false
set_option linter.unusedSimpArgs false

open Go.Proofs.YtblihmohgfmpgaaW.Open
def g68 (x : S68) : Prop := (Lit.int .i64 x.f0).wf = true ∧ (x.f1.length ≤ maxLen ∧ ∀ y ∈ x.f1, (Lit.int .i64 y).wf = true) ∧ (Lit.int .i64 x.f2).wf = true ∧ (Lit.int .i64 x.f3).wf = true
theorem opn68 : Opn Try.prog k68 68 g68 := by
  show Opn Try.prog (Kd.iso (Kd.pair (Kd.int .i64) (Kd.pair (Kd.slice 3 (Kd.int .i64)) (Kd.pair (Kd.int .i64) (Kd.int .i64)))) (fun x : S68 => (x.f0, x.f1, x.f2, x.f3))) 68 (fun x : S68 => (andG (fun x => (Lit.int .i64 x).wf = true) (andG (fun x => (x.length ≤ maxLen ∧ ∀ y ∈ x, (Lit.int .i64 y).wf = true)) (andG (fun x => (Lit.int .i64 x).wf = true) (fun x => (Lit.int .i64 x).wf = true)))) ((fun x : S68 => (x.f0, x.f1, x.f2, x.f3)) x))
  refine Opn.iso (g := (andG (fun x => (Lit.int .i64 x).wf = true) (andG (fun x => (x.length ≤ maxLen ∧ ∀ y ∈ x, (Lit.int .i64 y).wf = true)) (andG (fun x => (Lit.int .i64 x).wf = true) (fun x => (Lit.int .i64 x).wf = true))))) (fun x : S68 => (x.f0, x.f1, x.f2, x.f3)) (fun a : Int × (List Int) × Int × Int => (⟨a.1, a.2.1, a.2.2.1, a.2.2.2⟩ : S68)) (fun _ => rfl) ?_
  refine Opn.struct Try.underlying68 (n0 := 4) (by kernel_rfl) rfl ?_
  refine OpnF.cons (n0 := 1) rfl ?_ rfl ?_ ?_
  · kernel_rfl
  · exact (Opn.int Try.underlying3)
  refine OpnF.cons (n0 := 1) rfl ?_ rfl ?_ ?_
  · kernel_rfl
  · exact (Opn.slice Try.underlying29 (n0 := 1) (by kernel_rfl) rfl (Opn.int Try.underlying3))
  refine OpnF.cons (n0 := 1) rfl ?_ rfl ?_ ?_
  · kernel_rfl
  · exact (Opn.int Try.underlying3)
  refine OpnF.one (n0 := 1) rfl ?_ rfl ?_
  · kernel_rfl
  · exact (Opn.int Try.underlying3)
def g31 (x : S31) : Prop := (x.f0.length ≤ maxLen ∧ ∀ y ∈ x.f0, (Lit.int .i64 y).wf = true) ∧ (Lit.int .i64 x.f1).wf = true ∧ (Lit.int .i64 x.f2).wf = true
theorem opn31 : Opn Try.prog k31 31 g31 := by
  show Opn Try.prog (Kd.iso (Kd.pair (Kd.slice 3 (Kd.int .i64)) (Kd.pair (Kd.int .i64) (Kd.int .i64))) (fun x : S31 => (x.f0, x.f1, x.f2))) 31 (fun x : S31 => (andG (fun x => (x.length ≤ maxLen ∧ ∀ y ∈ x, (Lit.int .i64 y).wf = true)) (andG (fun x => (Lit.int .i64 x).wf = true) (fun x => (Lit.int .i64 x).wf = true))) ((fun x : S31 => (x.f0, x.f1, x.f2)) x))
  refine Opn.iso (g := (andG (fun x => (x.length ≤ maxLen ∧ ∀ y ∈ x, (Lit.int .i64 y).wf = true)) (andG (fun x => (Lit.int .i64 x).wf = true) (fun x => (Lit.int .i64 x).wf = true)))) (fun x : S31 => (x.f0, x.f1, x.f2)) (fun a : (List Int) × Int × Int => (⟨a.1, a.2.1, a.2.2⟩ : S31)) (fun _ => rfl) ?_
  refine Opn.struct Try.underlying31 (n0 := 3) (by kernel_rfl) rfl ?_
  refine OpnF.cons (n0 := 1) rfl ?_ rfl ?_ ?_
  · kernel_rfl
  · exact (Opn.slice Try.underlying29 (n0 := 1) (by kernel_rfl) rfl (Opn.int Try.underlying3))
  refine OpnF.cons (n0 := 1) rfl ?_ rfl ?_ ?_
  · kernel_rfl
  · exact (Opn.int Try.underlying3)
  refine OpnF.one (n0 := 1) rfl ?_ rfl ?_
  · kernel_rfl
  · exact (Opn.int Try.underlying3)
end Go.Proofs.Ytblihmohgfmpgaa.Q

namespace Go.Proofs.Ytblihmohgfmpgaa.Q
open Go.RowKit Go.Proofs.YtblihmohgfmpgaaW.PrintWords Go.Proofs.YtblihmohgfmpgaaW.PrintLast Go.Proofs.YtblihmohgfmpgaaW.PrintMore
set_option linter.unusedVariables false
set_option linter.unusedSimpArgs false

/-- What the walk of laws_FnExactBestMark is to show. -/
def laws_FnExactBestMark.Goal : Prop := ∀ (l0 : List (S68)) (l1_0 : List Int) (a1_1 : Int) (a1_2 : Int) (A0 : Option Addr) (c0 : Nat) (A1_0 : Option Addr) (c1_0 : Nat) (w : World) (hr0 : Kd.C k68 w A0 l0.length l0) (hc0 : l0.length ≤ c0) (hr1_0 : Kd.C (Kd.int .i64) w A1_0 l1_0.length l1_0) (hc1_0 : l1_0.length ≤ c1_0) (q0 : (l0.length ≤ maxLen ∧ ∀ x ∈ l0, g68 x)) (q1 : g31 (⟨l1_0, a1_1, a1_2⟩ : S31)),
    Calls Try.prog 10 #[.slice A0 l0.length c0, .agg #[.slice A1_0 l1_0.length c1_0, .int .i64 a1_1, .int .i64 a1_2]] w fun e w' => e = .returned (.bool true) ∧ Below w.heap.size w w'
end Go.Proofs.Ytblihmohgfmpgaa.Q

namespace Go.Proofs.YtblihmohgfmpgaaW.Pl
open Go.RowKit Go.Proofs.YtblihmohgfmpgaaW.PrintWords Classical

theorem w64 {x : Int} (h : -9223372036854775808 ≤ x ∧ x ≤ 9223372036854775807) : wrap64 x = x := by unfold wrap64; omega
/-- A loop that fills a list place by place. -/
theorem fill_gen {α β : Type} (l : List α) (conv : α → β) (loop : Nat → List β → Int → Option (List β))
    (hstep : ∀ k (acc : List β) (i : Nat) (hi : i < l.length), acc.length = l.length → loop (k + 1) acc (i : Int) = loop k (acc.set i (conv l[i])) ((i + 1 : Nat) : Int))
    (hend : ∀ k (acc : List β), loop (k + 1) acc (l.length : Int) = some acc) (k : Nat) (hk : l.length < k) (acc : List β) (hacc : acc.length = l.length) : loop k acc 0 = some (l.map conv) := by
  have main : ∀ d (i : Nat) (k : Nat) (acc : List β), l.length - i = d → i ≤ l.length → d < k → acc.length = l.length → (∀ j (hj : j < i) (h2 : j < acc.length) (h3 : j < l.length), acc[j] = conv l[j]) → loop k acc (i : Int) = some (l.map conv) := by
    intro d
    induction d with
    | zero =>
      intro i k acc hd hi hk ha hj
      obtain ⟨k, rfl⟩ : ∃ m, k = m + 1 := ⟨k - 1, by omega⟩
      have : i = l.length := by omega
      subst this
      rw [hend]
      congr 1
      apply List.ext_getElem (by simp [ha])
      intro j h1 h2
      simp only [List.getElem_map]
      exact hj j (by omega) h1 (by omega)
    | succ d ih =>
      intro i k acc hd hi hk ha hj
      obtain ⟨k, rfl⟩ : ∃ m, k = m + 1 := ⟨k - 1, by omega⟩
      rw [hstep k acc i (by omega) ha]
      refine ih (i + 1) k _ (by omega) (by omega) (by omega) (by simp [ha]) ?_
      intro j h1 h2 h3
      by_cases e : j = i
      · subst e; simp
      · rw [List.getElem_set_ne (by omega)]
        exact hj j (by omega) (by simpa using h2) h3
  exact main l.length 0 k acc (by omega) (by omega) hk hacc (fun j hj => by omega)

/-- A place of a list (a word that simp leaves alone). -/
def nth {α : Type} (l : List α) (i : Nat) (z : α) : α := l.getD i z
theorem nth_get {α : Type} {l : List α} {i : Nat} {z : α} (h : i < l.length) : nth l i z = l[i] := by
  unfold nth; rw [List.getD_eq_getElem?_getD, List.getElem?_eq_getElem h]; rfl
theorem nth_map {α β : Type} {f : α → β} {l : List α} {i : Nat} {z : α} {y : β} (h : i < l.length) : nth (l.map f) i y = f (nth l i z) := by
  rw [nth_get h, nth_get (by simpa using h)]; simp
theorem nth_mem {α : Type} {l : List α} {i : Nat} {z : α} (h : i < l.length) : nth l i z ∈ l := by rw [nth_get h]; exact List.getElem_mem h
theorem all_iff_nth {α : Type} {l : List α} {p : α → Bool} (z : α) : l.all p = true ↔ ∀ i, i < l.length → p (nth l i z) = true := by
  rw [List.all_eq_true]
  constructor
  · intro h i hi
    rw [nth_get hi]; exact h _ (List.getElem_mem hi)
  · intro h x hx
    obtain ⟨i, hi, rfl⟩ := List.getElem_of_mem hx
    have := h i hi
    rwa [nth_get hi] at this
theorem range_all {n : Nat} {p : Nat → Bool} : (List.range n).all p = true ↔ ∀ i, i < n → p i = true := by
  rw [List.all_eq_true]; simp
/-- What the size's check lets in. -/
theorem sz_small {n : Nat} (hm : n ≤ maxLen) : (wrap64 (1048576 - (n : Int)) < 0) ↔ 1048576 < n := by
  unfold maxLen at hm
  rw [w64 (by omega)]; omega
/-! ### with 'from some number of rounds on' -/
theorem Ev.succ {α : Type} {g : Nat → Option α} {r : α} (h : Ev (fun k => g (k + 1)) r) : Ev g r := Ev.step (fun _ => rfl) h
theorem Ev.c {α : Type} {x : Option α} {r : α} (h : x = some r) : Ev (fun _ => x) r := ⟨0, fun _ _ => h⟩
theorem scanE {γ : Type} (n : Nat) (ok : Nat → Bool) (e bad : γ) (loop : Nat → Int → Option γ)
    (hs : ∀ (i : Nat) (r : γ), i < n → ok i = true → Ev (fun k => loop k ((i + 1 : Nat) : Int)) r → Ev (fun k => loop k (i : Int)) r)
    (hb : ∀ (i : Nat), i < n → ok i = false → Ev (fun k => loop k (i : Int)) bad)
    (he : Ev (fun k => loop k (n : Int)) e) : Ev (fun k => loop k 0) (if (List.range n).all ok = true then e else bad) := by
  have main : ∀ d (i : Nat), n - i = d → i ≤ n → Ev (fun k => loop k (i : Int)) (if (∀ j, i ≤ j → j < n → ok j = true) then e else bad) := by
    intro d
    induction d with
    | zero =>
      intro i hd hi
      have : i = n := by omega
      subst this
      rw [if_pos (fun j h1 h2 => by omega)]; exact he
    | succ d ih =>
      intro i hd hi
      cases ho : ok i with
      | true =>
        refine hs i _ (by omega) ho ?_
        have := ih (i + 1) (by omega) (by omega)
        by_cases hall : ∀ j, i ≤ j → j < n → ok j = true
        · rw [if_pos hall]; rwa [if_pos (fun j h1 h2 => hall j (by omega) h2)] at this
        · rw [if_neg hall]; rwa [if_neg (fun h => hall (fun j h1 h2 => by
            by_cases e : j = i
            · subst e; exact ho
            · exact h j (by omega) h2))] at this
      | false =>
        rw [if_neg (fun h => by have := h i (by omega) (by omega); rw [ho] at this; cases this)]
        exact hb i (by omega) ho
  have := main n 0 (by omega) (by omega)
  by_cases hall : ∀ j, 0 ≤ j → j < n → ok j = true
  · rw [if_pos hall] at this
    rw [if_pos (List.all_eq_true.2 (fun j hj => hall j (by omega) (by simpa using hj)))]
    exact this
  · rw [if_neg hall] at this
    rw [if_neg (fun h => hall (fun j _ h2 => List.all_eq_true.1 h j (by simpa using h2)))]
    exact this
theorem stepI (n : Nat) (h : n < 4611686018427387904) : wrap64 ((n : Int) + 1) = ((n + 1 : Nat) : Int) := by
  rw [w64 (by omega)]
  rfl
theorem predI (n : Nat) (h : 1 ≤ n ∧ n < 4611686018427387904) : wrap64 ((n : Int) - 1) = ((n - 1 : Nat) : Int) := by
  rw [w64 (by omega)]
  omega
end Go.Proofs.YtblihmohgfmpgaaW.Pl

namespace Go.Proofs.Ytblihmohgfmpgaa.M
open Go.RowKit Go.Proofs.Ytblihmohgfmpgaa.Q Go.Proofs.YtblihmohgfmpgaaW.PrintWords Go.Proofs.YtblihmohgfmpgaaW.PrintLast Go.Proofs.YtblihmohgfmpgaaW.Pl Classical
set_option linter.unusedSimpArgs false
set_option linter.unusedVariables false
theorem rdI (l : List Int) (i : Nat) : rd l (i : Int) = nth l i 0 := by unfold rd nth; simp
theorem eqInts (l : List Int) (hm : l.length ≤ 1048576) : Ev (fun k => laws_eqIntS.f k l l) true := by
  unfold laws_eqIntS.f
  simp only [if_true]
  have h := scanE l.length (fun _ => true) true false (fun k i => laws_eqIntS.l0 k l l i) ?hs ?hb ?he
  case hs =>
    intro i r hi _ hr
    refine Ev.succ ?_
    simp only [laws_eqIntS.l0, if_pos (show (i : Int) < (l.length : Int) by omega), if_pos (show (0 : Int) ≤ (i : Int) by omega), if_true, w64 (x := (i : Int) + 1) (by omega)]
    exact hr
  case hb => intro i _ h; cases h
  case he =>
    refine Ev.succ ?_
    simp only [laws_eqIntS.l0, if_neg (show ¬ ((l.length : Int) < (l.length : Int)) by omega)]
    exact Ev.now _
  simpa using h
theorem toInts (l : List Int) (hm : l.length ≤ 1048576) : Ev (fun k => laws_toIntS.f k l) l := by
  refine ⟨l.length + 1, fun k hk => ?_⟩
  show laws_toIntS.f k l = _
  unfold laws_toIntS.f
  rw [if_pos (by omega), if_pos (by omega)]
  have h := fill_gen l (fun x => x) (fun k acc i => laws_toIntS.l0 k l acc i) ?hstep ?hend k hk (List.replicate l.length 0) (by simp)
  case hstep =>
    intro k acc i hi ha
    simp only [laws_toIntS.l0]
    rw [if_pos (by omega), if_pos (by omega), if_pos (by omega), rdI, nth_get hi, w64 (x := (i : Int) + 1) (by omega)]
    rfl
  case hend =>
    intro k acc
    simp [laws_toIntS.l0]
  simpa using h
theorem szInts (l : List Int) (a : Int) (hl : l.length ≤ maxLen) (ha : 0 ≤ a ∧ a ≤ 1048576) : ∃ r, laws_szIntS.f l a = some r ∧ (r < 0 ∨ (0 ≤ r ∧ r ≤ 1048576 ∧ l.length ≤ 1048576)) := by
  unfold laws_szIntS.f
  unfold maxLen at hl
  rw [w64 (by omega)]
  by_cases h : a - (l.length : Int) < 0
  · exact ⟨-1, by rw [if_pos h], by omega⟩
  · exact ⟨_, by rw [if_neg h], by omega⟩
end Go.Proofs.Ytblihmohgfmpgaa.M

namespace Go.Proofs.Ytblihmohgfmpgaa.M
open Go.RowKit Go.Proofs.Ytblihmohgfmpgaa.Q Go.Proofs.YtblihmohgfmpgaaW.PrintWords Go.Proofs.YtblihmohgfmpgaaW.PrintLast Go.Proofs.YtblihmohgfmpgaaW.Pl Classical
set_option linter.unusedSimpArgs false
set_option linter.unusedVariables false

theorem rd69 (l : List S69) (i : Nat) : rd_T69 l (i : Int) = nth l i z69 := by unfold rd_T69 nth; simp
theorem rd68 (l : List S68) (i : Nat) : rd_T68 l (i : Int) = nth l i z68 := by unfold rd_T68 nth; simp
theorem l1In (a b c : Int) : spec_l1In.f a b c = some (decide (b ≤ a ∧ a ≤ c)) := by
  unfold spec_l1In.f
  by_cases h : b ≤ a <;> by_cases h2 : a ≤ c <;> simp [h, h2]
theorem iIn (a b c : Int) : impl_in.f a b c = some (decide (b ≤ a ∧ a ≤ c)) := by
  unfold impl_in.f
  by_cases h : b ≤ a <;> by_cases h2 : a ≤ c <;> simp [h, h2]
/-- The sizes' check. -/
theorem szSchools (l : List S68) (hl : l.length ≤ maxLen) (hg : ∀ x ∈ l, x.f1.length ≤ maxLen) : ∃ r, Ev (fun k => laws_szSchoolS.f k l 1048576) r ∧ (r < 0 ∨ (0 ≤ r ∧ r ≤ 1048576 ∧ l.length ≤ 1048576 ∧ ∀ i, i < l.length → (nth l i z68).f1.length ≤ 1048576)) := by
  unfold laws_szSchoolS.f
  have hs := sz_small hl
  by_cases h : wrap64 (1048576 - (l.length : Int)) < 0
  · simp only [if_pos h]
    exact ⟨-1, Ev.now _, by omega⟩
  · simp only [if_neg h]
    have hlen : l.length ≤ 1048576 := by
      by_cases h2 : 1048576 < l.length
      · exact absurd (hs.2 h2) h
      · omega
    rw [w64 (by omega)]
    have main : ∀ d (i : Nat) (a : Int), l.length - i = d → i ≤ l.length → (0 ≤ a ∧ a ≤ 1048576) → (∀ j, j < i → (nth l j z68).f1.length ≤ 1048576) → ∃ r, Ev (fun k => laws_szSchoolS.l0 k l a (i : Int)) r ∧ (r < 0 ∨ (0 ≤ r ∧ r ≤ 1048576 ∧ l.length ≤ 1048576 ∧ ∀ i, i < l.length → (nth l i z68).f1.length ≤ 1048576)) := by
      intro d
      induction d with
      | zero =>
        intro i a hd hi ha hp
        have hil : i = l.length := by omega
        subst hil
        refine ⟨a, Ev.succ ?_, .inr ⟨ha.1, ha.2, hlen, hp⟩⟩
        simp only [laws_szSchoolS.l0, if_neg (show ¬ ((l.length : Int) < (l.length : Int)) by omega)]
        exact Ev.now _
      | succ d ih =>
        intro i a hd hi ha hp
        obtain ⟨r, hr, hc⟩ := szInts (nth l i z68).f1 a (hg _ (nth_mem (by omega))) ha
        have hsz : laws_szSchool.f (nth l i z68).f0 (nth l i z68).f1 (nth l i z68).f2 (nth l i z68).f3 a = some (if r < 0 then -1 else r) := by
          unfold laws_szSchool.f
          rw [hr, Option.bind_some]
          split <;> rfl
        rcases hc with hc | ⟨c1, c2, c3⟩
        · refine ⟨-1, Ev.succ ?_, by omega⟩
          simp only [laws_szSchoolS.l0, rd68, hsz, Option.bind_some, if_pos (show (i : Int) < (l.length : Int) by omega), if_pos (show (0 : Int) ≤ (i : Int) by omega), if_pos hc, if_pos (show (-1 : Int) < 0 by omega)]
          exact Ev.now _
        · obtain ⟨q, hq, hq2⟩ := ih (i + 1) r (by omega) (by omega) ⟨c1, c2⟩ (fun j hj => by
            by_cases e : j = i
            · subst e; exact c3
            · exact hp j (by omega))
          refine ⟨q, Ev.succ ?_, hq2⟩
          simp only [laws_szSchoolS.l0, rd68, hsz, Option.bind_some, if_pos (show (i : Int) < (l.length : Int) by omega), if_pos (show (0 : Int) ≤ (i : Int) by omega), if_neg (show ¬ r < 0 by omega), stepI i (by omega)]
          exact hq
    exact main l.length 0 _ (by omega) (by omega) (by omega) (fun j hj => by omega)
theorem szPiece (m : List Int) (a b c : Int) (hm : m.length ≤ maxLen) (hc : 0 ≤ c ∧ c ≤ 1048576) : ∃ r, laws_szPiece.f m a b c = some r ∧ (r < 0 ∨ (0 ≤ r ∧ m.length ≤ 1048576)) := by
  obtain ⟨r, hr, h⟩ := szInts m c hm hc
  unfold laws_szPiece.f
  rw [hr, Option.bind_some]
  by_cases h0 : r < 0
  · exact ⟨-1, by rw [if_pos h0], by omega⟩
  · exact ⟨r, by rw [if_neg h0], by omega⟩
def cvS (x : S68) : S69 := ⟨x.f0, x.f1, x.f2, x.f3⟩
theorem toSchools (l : List S68) (hm : l.length ≤ 1048576) (hg : ∀ i, i < l.length → (nth l i z68).f1.length ≤ 1048576) : Ev (fun k => laws_toSchoolS.f k l) (l.map cvS) := by
  unfold laws_toSchoolS.f
  simp only [if_pos (show (0 : Int) ≤ (l.length : Int) by omega), Int.toNat_natCast, if_pos (show l.length ≤ 5864062014805 by omega)]
  have main : ∀ d (i : Nat) (s : List S69), l.length - i = d → i ≤ l.length → s.length = l.length → (∀ j, j < i → nth s j z69 = cvS (nth l j z68)) → Ev (fun k => laws_toSchoolS.l0 k l s (i : Int)) (l.map cvS) := by
    intro d
    induction d with
    | zero =>
      intro i s hd hi hs hp
      have hil : i = l.length := by omega
      subst hil
      refine Ev.succ ?_
      simp only [laws_toSchoolS.l0, if_neg (show ¬ ((l.length : Int) < (l.length : Int)) by omega)]
      have e : s = l.map cvS := by
        apply List.ext_getElem (by simp [hs])
        intro j h1 h2
        have := hp j (by omega)
        rw [nth_get h1, nth_get (by omega)] at this
        rw [this]; simp
      rw [e]
      exact Ev.now _
    | succ d ih =>
      intro i s hd hi hs hp
      refine Ev.succ ?_
      simp only [laws_toSchoolS.l0, rd68, if_pos (show (i : Int) < (l.length : Int) by omega), if_pos (show (0 : Int) ≤ (i : Int) by omega), if_pos (show (i : Int) < (s.length : Int) by omega), stepI i (by omega), Int.toNat_natCast]
      refine Ev.bind (a := ((nth l i z68).f0, (nth l i z68).f1, (nth l i z68).f2, (nth l i z68).f3)) ?_ ?_
      · unfold laws_toSchool.f
        exact Ev.bind (toInts _ (hg i (by omega))) (Ev.now _)
      · refine ih (i + 1) _ (by omega) (by omega) (by simp [hs]) (fun j hj => ?_)
        rw [nth_get (by simp; omega), List.getElem_set]
        by_cases e : i = j
        · subst e; rw [if_pos rfl]; rfl
        · rw [if_neg e, ← nth_get (z := z69) (by omega)]
          exact hp j (by omega)
  exact main l.length 0 _ (by omega) (by omega) (by simp) (fun j hj => by omega)
theorem eqSchools (l : List S69) (hm : l.length ≤ 1048576) (hg : ∀ i, i < l.length → (nth l i z69).f1.length ≤ 1048576) : Ev (fun k => laws_eqSchoolS.f k l l) true := by
  unfold laws_eqSchoolS.f
  simp only [if_true]
  have h := scanE l.length (fun _ => true) true false (fun k i => laws_eqSchoolS.l0 k l l i) ?hs ?hb ?he
  case hs =>
    intro i r hi _ hr
    refine Ev.succ ?_
    simp only [laws_eqSchoolS.l0, rd69, if_pos (show (i : Int) < (l.length : Int) by omega), if_pos (show (0 : Int) ≤ (i : Int) by omega), stepI i (by omega)]
    refine Ev.bind (a := true) ?_ ?_
    · unfold laws_eqSchool.f
      simp only [if_true]
      exact Ev.bind (eqInts _ (hg i hi)) (by simp only [if_true]; exact Ev.now _)
    · simp only [if_true]
      exact hr
  case hb => intro i _ h; cases h
  case he =>
    refine Ev.succ ?_
    simp only [laws_eqSchoolS.l0, if_neg (show ¬ ((l.length : Int) < (l.length : Int)) by omega)]
    exact Ev.now _
  simpa using h
theorem toPiece (m : List Int) (a b : Int) (hm : m.length ≤ 1048576) : Ev (fun k => laws_toPiece.f k m a b) (m, a, b) := by
  unfold laws_toPiece.f
  exact Ev.bind (toInts m hm) (Ev.now _)
theorem eqPiece (m : List Int) (a b : Int) (hm : m.length ≤ 1048576) : Ev (fun k => laws_eqPiece.f k m a b m a b) true := by
  unfold laws_eqPiece.f
  refine Ev.bind (eqInts m hm) ?_
  simp only [if_true]
  exact Ev.now _
/-- Marks within bounds. -/
def inB (lo hi : Int) (x : Int) : Bool := decide (lo ≤ x ∧ x ≤ hi)
def okM (lo hi : Int) (m : List Int) : Bool := ((List.range m.length).all fun i => inB lo hi (nth m i 0)) && decide (m.length = 8)
theorem all_nth {α : Type} {l : List α} {p : α → Bool} (z : α) : l.all p = (List.range l.length).all fun i => p (nth l i z) := by
  rw [Bool.eq_iff_iff, all_iff_nth z, range_all]
theorem sMarks (m : List Int) (lo hi : Int) (hm : m.length ≤ 1048576) : Ev (fun k => spec_l20Marks.f k m lo hi) (okM lo hi m) := by
  unfold spec_l20Marks.f okM
  have h := scanE m.length (fun i => inB lo hi (nth m i 0)) (decide (m.length = 8)) false (fun k i => spec_l20Marks.l0 k m lo hi i) ?hs ?hb ?he
  case hs =>
    intro i r hi ho hr
    refine Ev.succ ?_
    unfold inB at ho
    simp only [spec_l20Marks.l0, rdI, l1In, Option.bind_some, if_pos (show (i : Int) < (m.length : Int) by omega), if_pos (show (0 : Int) ≤ (i : Int) by omega), stepI i (by omega), ho, if_true]
    exact hr
  case hb =>
    intro i hi ho
    refine Ev.succ ?_
    unfold inB at ho
    simp only [spec_l20Marks.l0, rdI, l1In, Option.bind_some, if_pos (show (i : Int) < (m.length : Int) by omega), if_pos (show (0 : Int) ≤ (i : Int) by omega), stepI i (by omega), ho, Bool.false_eq_true, if_false]
    exact Ev.now _
  case he =>
    refine Ev.succ ?_
    simp only [spec_l20Marks.l0, if_neg (show ¬ ((m.length : Int) < (m.length : Int)) by omega)]
    refine Ev.c ?_
    congr 1
    by_cases e : m.length = 8
    · rw [e]; rfl
    · rw [decide_eq_false e, beq_eq_false_iff_ne]; omega
  have e : (if ((List.range m.length).all fun i => inB lo hi (nth m i 0)) = true then decide (m.length = 8) else false) = (((List.range m.length).all fun i => inB lo hi (nth m i 0)) && decide (m.length = 8)) := by
    generalize (List.range m.length).all _ = b
    cases b <;> simp
  rw [e] at h
  exact h
def okE (a b : Int) : Bool := decide (1 ≤ a ∧ a ≤ b ∧ b ≤ 3000)
theorem sYears (a b : Int) : spec_l20Years.f a b = some (okE a b) := by
  unfold spec_l20Years.f okE
  rw [l1In, Option.bind_some]
  by_cases h : 1 ≤ a ∧ a ≤ b
  · rw [decide_eq_true h, if_pos rfl]; congr 1; rw [decide_eq_decide]; omega
  · rw [decide_eq_false h, decide_eq_false (show ¬ (1 ≤ a ∧ a ≤ b ∧ b ≤ 3000) from fun g => h ⟨g.1, g.2.1⟩)]; rfl
theorem iEra (a b : Int) : impl_areEra.f a b = some (okE a b) := by
  unfold impl_areEra.f okE
  by_cases h : a ≥ 1
  · by_cases h2 : a ≤ b
    · rw [if_pos h, if_pos h2]; congr 1; rw [decide_eq_decide]; omega
    · rw [if_pos h, if_neg h2, decide_eq_false (by omega)]
  · rw [if_neg h, decide_eq_false (by omega)]
/-- A valid school. -/
def okS (x : S69) : Bool := decide (1 ≤ x.f0 ∧ x.f0 ≤ 99) && (okM 0 100 x.f1 && okE x.f2 x.f3)
theorem iSchool (x : S69) : impl_School_isValid.f x.f0 x.f1 x.f2 x.f3 = some (okS x) := by
  unfold impl_School_isValid.f impl_isId.f okS impl_areAll_int__impl_School_isValid_1.f okM
  rw [iIn, Option.bind_some, Option.bind_some, all_total (p := inB 0 100) (fun y _ => by unfold impl_School_isValid_1.f; rw [iIn]; rfl), all_nth (p := inB 0 100) 0, iEra]
  cases decide (1 ≤ x.f0 ∧ x.f0 ≤ 99) <;> cases okE x.f2 x.f3 <;> by_cases h8 : x.f1.length = 8 <;> simp [h8] <;> omega
def ascAt (l : List S69) (i : Nat) : Bool := decide (i = 0) || decide ((nth l (i - 1) z69).f0 < (nth l i z69).f0)
/-- Valid schools, in order. -/
def goodS (l : List S69) : Bool := ((List.range l.length).all fun i => okS (nth l i z69) && ascAt l i) && decide (1 ≤ l.length ∧ l.length ≤ 6)
theorem sGood (l : List S69) (hm : l.length ≤ 1048576) (hg : ∀ i, i < l.length → (nth l i z69).f1.length ≤ 1048576) : Ev (fun k => spec_l20Good.f k l) (goodS l) := by
  unfold spec_l20Good.f
  have h := scanE l.length (fun i => okS (nth l i z69) && ascAt l i) (decide (1 ≤ l.length ∧ l.length ≤ 6)) false (fun k i => spec_l20Good.l0 k l i) ?hs ?hb ?he
  case hs =>
    intro i r hi ho hr
    refine Ev.succ ?_
    rw [Bool.and_eq_true] at ho
    obtain ⟨h1, h2⟩ := ho
    unfold okS at h1
    rw [Bool.and_eq_true, Bool.and_eq_true] at h1
    unfold ascAt at h2
    simp only [Bool.or_eq_true, decide_eq_true_iff] at h2
    simp only [spec_l20Good.l0, rd69, l1In, Option.bind_some, if_pos (show (i : Int) < (l.length : Int) by omega), if_pos (show (0 : Int) ≤ (i : Int) by omega), h1.1, if_true, stepI i (by omega)]
    refine Ev.bind (sMarks _ _ _ (hg i hi)) ?_
    simp only [h1.2.1, if_true, sYears, Option.bind_some, h1.2.2]
    by_cases h0 : i = 0
    · subst h0
      simp only [if_neg (show ¬ (((0 : Nat) : Int) > 0) by omega)]
      exact hr
    · simp only [if_pos (show (i : Int) > 0 by omega), predI i (by omega), if_pos (show (0 : Int) ≤ ((i - 1 : Nat) : Int) by omega), if_pos (show ((i - 1 : Nat) : Int) < (l.length : Int) by omega), rd69]
      simp only [if_neg (show ¬ ((nth l (i - 1) z69).f0 ≥ (nth l i z69).f0) by omega)]
      exact hr
  case hb =>
    intro i hi ho
    refine Ev.succ ?_
    simp only [spec_l20Good.l0, rd69, l1In, Option.bind_some, if_pos (show (i : Int) < (l.length : Int) by omega), if_pos (show (0 : Int) ≤ (i : Int) by omega)]
    cases g1 : decide (1 ≤ (nth l i z69).f0 ∧ (nth l i z69).f0 ≤ 99) with
    | false =>
      simp only [Bool.false_eq_true, if_false]
      exact Ev.now _
    | true =>
      simp only [if_true]
      refine Ev.bind (sMarks _ _ _ (hg i hi)) ?_
      cases g2 : okM 0 100 (nth l i z69).f1 with
      | false =>
        simp only [Bool.false_eq_true, if_false]
        exact Ev.now _
      | true =>
        simp only [if_true, sYears, Option.bind_some]
        cases g3 : okE (nth l i z69).f2 (nth l i z69).f3 with
        | false =>
          simp only [Bool.false_eq_true, if_false]
          exact Ev.now _
        | true =>
          unfold okS ascAt at ho
          rw [g1, g2, g3] at ho
          simp only [Bool.and_self, Bool.true_and, Bool.or_eq_false_iff, decide_eq_false_iff_not] at ho
          simp only [if_true, if_pos (show (i : Int) > 0 by omega), predI i (by omega), if_pos (show (0 : Int) ≤ ((i - 1 : Nat) : Int) by omega), if_pos (show ((i - 1 : Nat) : Int) < (l.length : Int) by omega), rd69]
          simp only [if_pos (show (nth l (i - 1) z69).f0 ≥ (nth l i z69).f0 by omega)]
          exact Ev.now _
  case he =>
    refine Ev.succ ?_
    simp only [spec_l20Good.l0, if_neg (show ¬ ((l.length : Int) < (l.length : Int)) by omega), l1In, Option.bind_some]
    refine Ev.c ?_
    congr 1
    rw [decide_eq_decide]; omega
  have e : (if ((List.range l.length).all fun i => okS (nth l i z69) && ascAt l i) = true then decide (1 ≤ l.length ∧ l.length ≤ 6) else false) = goodS l := by
    unfold goodS
    generalize (List.range l.length).all _ = b
    cases b <;> simp
  rw [e] at h
  exact h
theorem iAsc (l : List S69) (hm : l.length ≤ 1048576) : Ev (fun k => impl_School_59__impl_AreSchools_1.f k l) ((List.range l.length).all fun i => ascAt l i) := by
  unfold impl_School_59__impl_AreSchools_1.f
  have main : ∀ d (i : Nat), l.length + 1 - i = d → 1 ≤ i → i ≤ l.length + 1 → Ev (fun k => impl_School_59__impl_AreSchools_1.l0 k l (i : Int)) (decide (∀ j, i ≤ j → j < l.length → (nth l (j - 1) z69).f0 < (nth l j z69).f0)) := by
    intro d
    induction d with
    | zero =>
      intro i hd h1 hi
      refine Ev.succ ?_
      simp only [impl_School_59__impl_AreSchools_1.l0, if_neg (show ¬ ((i : Int) < (l.length : Int)) by omega)]
      rw [decide_eq_true (fun j h2 h3 => by omega)]
      exact Ev.now _
    | succ d ih =>
      intro i hd h1 hi
      refine Ev.succ ?_
      by_cases hlt : i < l.length
      · simp only [impl_School_59__impl_AreSchools_1.l0, impl_AreSchools_1.f, if_pos (show (i : Int) < (l.length : Int) by omega), predI i (by omega), if_pos (show (0 : Int) ≤ ((i - 1 : Nat) : Int) by omega), if_pos (show ((i - 1 : Nat) : Int) < (l.length : Int) by omega), rd69, Option.bind_some, if_pos (show (0 : Int) ≤ (i : Int) by omega), stepI i (by omega)]
        by_cases hle : (nth l (i - 1) z69).f0 < (nth l i z69).f0
        · simp only [if_neg (show ¬ ((nth l (i - 1) z69).f0 ≥ (nth l i z69).f0) by omega)]
          have := ih (i + 1) (by omega) (by omega) (by omega)
          rw [show (decide (∀ j, i ≤ j → j < l.length → (nth l (j - 1) z69).f0 < (nth l j z69).f0)) = decide (∀ j, i + 1 ≤ j → j < l.length → (nth l (j - 1) z69).f0 < (nth l j z69).f0) from by
            rw [decide_eq_decide]
            exact ⟨fun h j h2 h3 => h j (by omega) h3, fun h j h2 h3 => by
              by_cases e : j = i
              · subst e; exact hle
              · exact h j (by omega) h3⟩]
          exact this
        · simp only [if_pos (show (nth l (i - 1) z69).f0 ≥ (nth l i z69).f0 by omega)]
          rw [decide_eq_false (fun h => hle (h i (by omega) hlt))]
          exact Ev.now _
      · simp only [impl_School_59__impl_AreSchools_1.l0, if_neg (show ¬ ((i : Int) < (l.length : Int)) by omega)]
        rw [decide_eq_true (fun j h2 h3 => by omega)]
        exact Ev.now _
  have h := main l.length 1 (by omega) (by omega) (by omega)
  rw [show ((List.range l.length).all fun i => ascAt l i) = decide (∀ j, 1 ≤ j → j < l.length → (nth l (j - 1) z69).f0 < (nth l j z69).f0) from by
    rw [Bool.eq_iff_iff, range_all, decide_eq_true_iff]
    constructor
    · intro h j h1 h2
      have := h j h2
      unfold ascAt at this
      simp only [Bool.or_eq_true, decide_eq_true_iff] at this
      omega
    · intro h j h2
      unfold ascAt
      by_cases h0 : j = 0
      · simp [h0]
      · simp [h j (by omega) h2]]
  exact h
theorem all_split {n : Nat} {p q : Nat → Bool} : ((List.range n).all fun i => p i && q i) = ((List.range n).all p && (List.range n).all q) := by
  rw [Bool.eq_iff_iff, Bool.and_eq_true, range_all, range_all, range_all]
  constructor
  · intro h
    exact ⟨fun i hi => by have := h i hi; rw [Bool.and_eq_true] at this; exact this.1, fun i hi => by have := h i hi; rw [Bool.and_eq_true] at this; exact this.2⟩
  · intro ⟨h1, h2⟩ i hi
    rw [h1 i hi, h2 i hi]; rfl
theorem iGood (l : List S69) (hm : l.length ≤ 1048576) : Ev (fun k => impl_AreSchools.f k l) (goodS l) := by
  unfold impl_AreSchools.f impl_School_57__impl_School_isValid.f goodS
  rw [all_total (p := okS) (fun x _ => iSchool x), all_split, ← all_nth (p := okS) z69, iIn]
  simp only [Option.bind_some]
  by_cases hl : 1 ≤ l.length ∧ l.length ≤ 6
  · simp only [decide_eq_true hl, decide_eq_true (show (1 : Int) ≤ (l.length : Int) ∧ (l.length : Int) ≤ 6 by omega), if_true, Bool.and_true]
    by_cases ha : l.all okS = true
    · simp only [ha, if_true, Bool.true_and]
      exact Ev.bind (iAsc l hm) (Ev.now _)
    · simp only [ha, Bool.false_eq_true, if_false, Bool.false_and]
      exact Ev.now _
  · simp only [decide_eq_false hl, decide_eq_false (show ¬ ((1 : Int) ≤ (l.length : Int) ∧ (l.length : Int) ≤ 6) by omega), Bool.false_eq_true, if_false, Bool.and_false]
    exact Ev.now _
/-- A valid piece. -/
def goodP (m : List Int) (a b : Int) : Bool := okM (-1) 1 m && okE a b
theorem sPiece (m : List Int) (a b : Int) (hm : m.length ≤ 1048576) : Ev (fun k => spec_l20Piece.f k m a b) (goodP m a b) := by
  unfold spec_l20Piece.f goodP
  refine Ev.bind (sMarks m _ _ hm) ?_
  cases okM (-1) 1 m with
  | true => simp only [if_true, sYears, Option.bind_some, Bool.true_and]; exact Ev.now _
  | false => simp only [Bool.false_eq_true, if_false, Bool.false_and]; exact Ev.now _
theorem iPiece (m : List Int) (a b : Int) : impl_IsPiece.f m a b = some (goodP m a b) := by
  unfold impl_IsPiece.f goodP impl_areAll_int__impl_IsPiece_1.f okM
  rw [all_total (p := inB (-1) 1) (fun y _ => by unfold impl_IsPiece_1.f; rw [iIn]; rfl), all_nth (p := inB (-1) 1) 0, iEra]
  cases okE a b <;> by_cases h8 : m.length = 8 <;> simp [h8] <;> omega
def both (l : List S69) (m : List Int) (a b : Int) : Bool := goodS l && goodP m a b
theorem sBoth (l : List S69) (m : List Int) (a b : Int) (hm : l.length ≤ 1048576) (hg : ∀ i, i < l.length → (nth l i z69).f1.length ≤ 1048576) (hp : m.length ≤ 1048576) : Ev (fun k => spec_l20Both.f k l m a b) (both l m a b) := by
  unfold spec_l20Both.f both
  refine Ev.bind (sGood l hm hg) ?_
  cases goodS l with
  | true => simp only [if_true, Bool.true_and]; exact Ev.bind (sPiece m a b hp) (Ev.now _)
  | false => simp only [Bool.false_eq_true, if_false, Bool.false_and]; exact Ev.now _
theorem iBoth (l : List S69) (m : List Int) (a b : Int) (hm : l.length ≤ 1048576) : Ev (fun k => impl_areCompared.f k l m a b) (both l m a b) := by
  unfold impl_areCompared.f both
  refine Ev.bind (iGood l hm) ?_
  cases goodS l with
  | true => simp only [if_true, Bool.true_and, iPiece, Option.bind_some]; exact Ev.now _
  | false => simp only [Bool.false_eq_true, if_false, Bool.false_and]; exact Ev.now _
/-- What a valid call gives. -/
theorem both_at {l : List S69} {m : List Int} {a b : Int} (h : both l m a b = true) : l.length ≤ 6 ∧ (∀ i, i < l.length → (nth l i z69).f1.length = 8 ∧ (∀ j, j < 8 → 0 ≤ nth (nth l i z69).f1 j 0 ∧ nth (nth l i z69).f1 j 0 ≤ 100) ∧ (1 ≤ (nth l i z69).f2 ∧ (nth l i z69).f2 ≤ (nth l i z69).f3 ∧ (nth l i z69).f3 ≤ 3000) ∧ (1 ≤ (nth l i z69).f0 ∧ (nth l i z69).f0 ≤ 99)) ∧ m.length = 8 ∧ (∀ j, j < 8 → -1 ≤ nth m j 0 ∧ nth m j 0 ≤ 1) ∧ (1 ≤ a ∧ a ≤ b ∧ b ≤ 3000) := by
  unfold both goodS goodP okS okM okE inB at h
  simp only [Bool.and_eq_true, decide_eq_true_iff, range_all] at h
  obtain ⟨⟨h1, h2⟩, ⟨h3, h4⟩, h5⟩ := h
  refine ⟨h2.2, fun i hi => ?_, h4, fun j hj => h3 j (by omega), h5⟩
  have := (h1 i hi).1
  exact ⟨this.2.1.2, fun j hj => this.2.1.1 j (by omega), this.2.2, this.1⟩
theorem most (a b : Int) : spec_l1Most.f a b = some (mx a b) := by
  unfold spec_l1Most.f mx
  by_cases h : a > b
  · rw [if_pos h, if_neg (by omega)]
  · by_cases h2 : a < b
    · rw [if_neg h, if_pos h2]
    · rw [if_neg h, if_neg h2]; congr 1; omega
theorem least (a b : Int) : spec_l1Least.f a b = some (mn a b) := by
  unfold spec_l1Least.f mn
  by_cases h : a < b
  · rw [if_pos h]; congr 1; split <;> omega
  · rw [if_neg h]; congr 1; split <;> omega
theorem mx_c (a b c : Int) : mx a b ≤ c ↔ a ≤ c ∧ b ≤ c := by unfold mx; split <;> omega
theorem mn_c (a b c : Int) : c ≤ mn a b ↔ c ≤ a ∧ c ≤ b := by unfold mn; split <;> omega
end Go.Proofs.Ytblihmohgfmpgaa.M

namespace Go.Proofs.Ytblihmohgfmpgaa.M
open Go.RowKit Go.Proofs.Ytblihmohgfmpgaa.Q Go.Proofs.YtblihmohgfmpgaaW.PrintWords Go.Proofs.YtblihmohgfmpgaaW.PrintLast Go.Proofs.YtblihmohgfmpgaaW.Pl Classical
set_option linter.unusedSimpArgs false
set_option linter.unusedVariables false

/-- In how many of 100 carpets a mark is as on a piece. -/
def ch (s p : List Int) (j : Nat) : Int := if nth p j 0 = 1 then nth s j 0 else if nth p j 0 = 0 then 100 - nth s j 0 else 100
/-- Marks of a valid school and a valid piece. -/
structure Fit (s p : List Int) : Prop where
  ls : s.length = 8
  lp : p.length = 8
  bs : ∀ j, j < 8 → 0 ≤ nth s j 0 ∧ nth s j 0 ≤ 100
  bp : ∀ j, j < 8 → -1 ≤ nth p j 0 ∧ nth p j 0 ≤ 1
theorem ch_b {s p : List Int} (h : Fit s p) (j : Nat) (hj : j < 8) : 0 ≤ ch s p j ∧ ch s p j ≤ 100 := by
  have := h.bs j hj
  unfold ch; split
  · omega
  · split <;> omega
theorem iChance {s p : List Int} (h : Fit s p) (a b c d e : Int) (j : Nat) (hj : j < 8) : impl_chance.f a s b c p d e (j : Int) = some (ch s p j) := by
  have h1 := h.ls
  have h2 := h.lp
  have h3 := h.bs j hj
  unfold impl_chance.f ch
  simp only [rdI, if_pos (show (0 : Int) ≤ (j : Int) by omega), if_pos (show (j : Int) < (p.length : Int) by omega), if_pos (show (j : Int) < (s.length : Int) by omega), w64 (x := 100 - nth s j 0) (by omega)]
  by_cases e1 : nth p j 0 = 1
  · simp only [if_pos e1]
  · by_cases e0 : nth p j 0 = 0
    · simp only [if_neg e1, if_pos e0]
    · simp only [if_neg e1, if_neg e0]
theorem againstBoth {s p : List Int} (h : Fit s p) (a b c d e : Int) : ∃ q : List Int, q.length ≤ 8 ∧ (q = [] ↔ ∀ j, j < 8 → ch s p j ≠ 0) ∧ Ev (fun k => spec_l20Against.f k a s b c p d e) q ∧ Ev (fun k => impl_against.f k a s b c p d e) q := by
  unfold spec_l20Against.f impl_against.f
  have h1 := h.ls
  have h2 := h.lp
  have main : ∀ n (i : Nat) (x : List Int), 8 - i = n → i ≤ 8 → x.length ≤ i → ∃ q : List Int, q.length ≤ 8 ∧ (q = [] ↔ x = [] ∧ ∀ j, i ≤ j → j < 8 → ch s p j ≠ 0) ∧ Ev (fun k => spec_l20Against.l0 k x (i : Int) a s b c p d e) q ∧ Ev (fun k => impl_against.l0 k x (i : Int) a s b c p d e) q := by
    intro n
    induction n with
    | zero =>
      intro i x hn hi hx
      have hi8 : i = 8 := by omega
      subst hi8
      refine ⟨x, by omega, ⟨fun g => ⟨g, fun j h3 h4 => by omega⟩, fun g => g.1⟩, Ev.succ ?_, Ev.succ ?_⟩
      · simp only [spec_l20Against.l0, if_neg (show ¬ (((8 : Nat) : Int) < (p.length : Int)) by omega)]
        exact Ev.now _
      · simp only [impl_against.l0, if_neg (show ¬ (((8 : Nat) : Int) < 8) by omega)]
        exact Ev.now _
    | succ n ih =>
      intro i x hn hi hx
      have hi8 : i < 8 := by omega
      have hb := h.bs i hi8
      have hc := iChance h a b c d e i hi8
      by_cases e : ch s p i = 0
      · obtain ⟨q, hq, hq2, g1, g2⟩ := ih (i + 1) (x ++ [(i : Int)]) (by omega) (by omega) (by simp; omega)
        refine ⟨q, hq, ?_, Ev.succ ?_, Ev.succ ?_⟩
        · rw [hq2]
          constructor
          · intro ⟨g, _⟩; simp at g
          · intro ⟨_, g⟩; exact absurd e (g i (by omega) hi8)
        · unfold ch at e
          simp only [spec_l20Against.l0, rdI, if_pos (show (i : Int) < (p.length : Int) by omega), if_pos (show (0 : Int) ≤ (i : Int) by omega), if_pos (show (i : Int) < (s.length : Int) by omega), if_pos (show x.length < 17592186044416 by omega), stepI i (by omega)]
          by_cases e1 : nth p i 0 = 1
          · rw [if_pos e1] at e
            simp only [if_pos e1, if_pos e]
            exact g1
          · rw [if_neg e1] at e
            by_cases e0 : nth p i 0 = 0
            · rw [if_pos e0] at e
              simp only [if_neg e1, if_pos e0, if_pos (show nth s i 0 = 100 by omega)]
              exact g1
            · rw [if_neg e0] at e; omega
        · simp only [impl_against.l0, if_pos (show (i : Int) < 8 by omega), hc, Option.bind_some, if_pos e, if_pos (show x.length < 17592186044416 by omega), stepI i (by omega)]
          exact g2
      · obtain ⟨q, hq, hq2, g1, g2⟩ := ih (i + 1) x (by omega) (by omega) (by omega)
        refine ⟨q, hq, ?_, Ev.succ ?_, Ev.succ ?_⟩
        · rw [hq2]
          constructor
          · intro ⟨g, f⟩
            refine ⟨g, fun j h3 h4 => ?_⟩
            by_cases ej : j = i
            · subst ej; exact e
            · exact f j (by omega) h4
          · intro ⟨g, f⟩
            exact ⟨g, fun j h3 h4 => f j (by omega) h4⟩
        · unfold ch at e
          simp only [spec_l20Against.l0, rdI, if_pos (show (i : Int) < (p.length : Int) by omega), if_pos (show (0 : Int) ≤ (i : Int) by omega), if_pos (show (i : Int) < (s.length : Int) by omega), stepI i (by omega)]
          by_cases e1 : nth p i 0 = 1
          · rw [if_pos e1] at e
            simp only [if_pos e1, if_neg e, if_neg (show ¬ (nth p i 0 = 0) by omega)]
            exact g1
          · rw [if_neg e1] at e
            by_cases e0 : nth p i 0 = 0
            · rw [if_pos e0] at e
              simp only [if_neg e1, if_pos e0, if_neg (show ¬ (nth s i 0 = 100) by omega)]
              exact g1
            · simp only [if_neg e1, if_neg e0]
              exact g1
        · simp only [impl_against.l0, if_pos (show (i : Int) < 8 by omega), hc, Option.bind_some, if_neg e, stepI i (by omega)]
          exact g2
  obtain ⟨q, hq, hq2, g1, g2⟩ := main 8 0 [] rfl (by omega) (by simp)
  exact ⟨q, hq, by rw [hq2]; exact ⟨fun g j hj => g.2 j (by omega) hj, fun g => ⟨rfl, fun j _ hj => g j hj⟩⟩, g1, g2⟩
/-- A school is possible for a piece. -/
def can (s p : List Int) (f t a b : Int) : Bool := decide (f ≤ b ∧ a ≤ t) && (List.range 8).all fun j => ch s p j != 0
theorem canBoth {s p : List Int} (h : Fit s p) (x f t a b : Int) (hf : f ≤ t) (ha : a ≤ b) : Ev (fun k => spec_l20Can.f k x s f t p a b) (can s p f t a b) ∧ Ev (fun k => impl_isPossible.f k x s f t p a b) (can s p f t a b) := by
  obtain ⟨q, _, hq, g1, g2⟩ := againstBoth h x f t a b
  have hlen : ((q.length : Int) == 0) = (List.range 8).all fun j => ch s p j != 0 := by
    rw [Bool.eq_iff_iff, beq_iff_eq, range_all]
    constructor
    · intro e i hi
      have e' : q = [] := List.eq_nil_of_length_eq_zero (by omega)
      have := hq.1 e' i hi
      simpa using this
    · intro e
      have e' : q = [] := hq.2 (fun j hj => by simpa using e j hj)
      rw [e']; rfl
  have hA := mx_c f a (mn t b)
  have hB := mn_c t b f
  have hC := mn_c t b a
  unfold spec_l20Can.f impl_isPossible.f impl_shareYears.f can
  rw [← hlen]
  constructor
  · simp only [most, least, Option.bind_some]
    by_cases e : f ≤ b ∧ a ≤ t
    · simp only [if_pos (show mx f a ≤ mn t b by omega), decide_eq_true e, Bool.true_and]
      exact Ev.bind g1 (Ev.now _)
    · simp only [if_neg (show ¬ (mx f a ≤ mn t b) by omega), decide_eq_false e, Bool.false_and]
      exact Ev.now _
  · by_cases e1 : f ≤ b
    · by_cases e2 : a ≤ t
      · simp only [if_pos e1, decide_eq_true e2, decide_eq_true (show f ≤ b ∧ a ≤ t from ⟨e1, e2⟩), Option.bind_some, if_true, Bool.true_and]
        exact Ev.bind g2 (Ev.now _)
      · simp only [if_pos e1, decide_eq_false e2, decide_eq_false (show ¬ (f ≤ b ∧ a ≤ t) from fun g => e2 g.2), Option.bind_some, Bool.false_eq_true, if_false, Bool.false_and]
        exact Ev.now _
    · simp only [if_neg e1, decide_eq_false (show ¬ (f ≤ b ∧ a ≤ t) from fun g => e1 g.1), Option.bind_some, Bool.false_eq_true, if_false, Bool.false_and]
      exact Ev.now _
/-- The weight by the marks that can be told; what the others add; a bound. -/
def wS (s p : List Int) : Nat → Int
  | 0 => 1
  | i + 1 => wS s p i * (if nth p i 0 = 1 ∨ nth p i 0 = 0 then ch s p i else 1)
def wU (p : List Int) : Nat → Int
  | 0 => 1
  | i + 1 => wU p i * (if nth p i 0 = 1 ∨ nth p i 0 = 0 then 1 else 100)
def bnd : Nat → Int
  | 0 => 1
  | i + 1 => bnd i * 100
theorem bnd_le : ∀ i, i ≤ 8 → bnd i ≤ 10000000000000000
  | 0, _ => by decide
  | 1, _ => by decide
  | 2, _ => by decide
  | 3, _ => by decide
  | 4, _ => by decide
  | 5, _ => by decide
  | 6, _ => by decide
  | 7, _ => by decide
  | 8, _ => by decide
  | n + 9, h => by omega
theorem w_b {s p : List Int} (h : Fit s p) : ∀ i, i ≤ 8 → 0 ≤ wS s p i ∧ 1 ≤ wU p i ∧ wS s p i * wU p i ≤ bnd i
  | 0, _ => by simp [wS, wU, bnd]
  | i + 1, hi => by
    obtain ⟨h1, h2, h3⟩ := w_b h i (by omega)
    obtain ⟨c1, c2⟩ := ch_b h i (by omega)
    have h4 : 0 ≤ wS s p i * wU p i := Int.mul_nonneg h1 (by omega)
    by_cases e : nth p i 0 = 1 ∨ nth p i 0 = 0
    · simp only [wS, wU, bnd, if_pos e, Int.mul_one]
      refine ⟨Int.mul_nonneg h1 c1, h2, ?_⟩
      rw [Int.mul_right_comm]
      exact Int.mul_le_mul h3 c2 c1 (by omega)
    · simp only [wS, wU, bnd, if_neg e, Int.mul_one]
      refine ⟨h1, by omega, ?_⟩
      rw [← Int.mul_assoc]
      omega
theorem ch_u {s p : List Int} (i : Nat) (e : ¬ (nth p i 0 = 1 ∨ nth p i 0 = 0)) : ch s p i = 100 := by
  unfold ch
  rw [if_neg (fun g => e (.inl g)), if_neg (fun g => e (.inr g))]
theorem wS_le {s p : List Int} (h : Fit s p) (i : Nat) (hi : i ≤ 8) : 0 ≤ wS s p i ∧ wS s p i ≤ 10000000000000000 ∧ 0 ≤ wS s p i * wU p i ∧ wS s p i * wU p i ≤ 10000000000000000 := by
  obtain ⟨h1, h2, h3⟩ := w_b h i hi
  have := bnd_le i hi
  have h4 : wS s p i * 1 ≤ wS s p i * wU p i := Int.mul_le_mul_of_nonneg_left h2 h1
  rw [Int.mul_one] at h4
  omega
theorem sWeightLoop {s p : List Int} (h : Fit s p) (x f t a b : Int) : Ev (fun k => spec_l20Weight.l0 k 1 0 x s f t p a b) (wS s p 8) := by
  have h1 := h.ls
  have h2 := h.lp
  have main : ∀ n (i : Nat), 8 - i = n → i ≤ 8 → Ev (fun k => spec_l20Weight.l0 k (wS s p i) (i : Int) x s f t p a b) (wS s p 8) := by
    intro n
    induction n with
    | zero =>
      intro i hn hi
      have hi8 : i = 8 := by omega
      subst hi8
      refine Ev.succ ?_
      simp only [spec_l20Weight.l0, if_neg (show ¬ (((8 : Nat) : Int) < (p.length : Int)) by omega)]
      exact Ev.now _
    | succ n ih =>
      intro i hn hi
      have hi8 : i < 8 := by omega
      have hb := h.bs i hi8
      have hw := wS_le h (i + 1) (by omega)
      have g := ih (i + 1) (by omega) (by omega)
      refine Ev.succ ?_
      simp only [spec_l20Weight.l0, rdI, if_pos (show (i : Int) < (p.length : Int) by omega), if_pos (show (0 : Int) ≤ (i : Int) by omega), if_pos (show (i : Int) < (s.length : Int) by omega), stepI i (by omega)]
      by_cases e1 : nth p i 0 = 1
      · have e : wS s p (i + 1) = wS s p i * nth s i 0 := by
          simp only [wS]
          rw [if_pos (.inl e1)]
          unfold ch; rw [if_pos e1]
        rw [e] at g hw
        simp only [if_pos e1]
        rw [w64 (by omega)]
        exact g
      · by_cases e0 : nth p i 0 = 0
        · have e : wS s p (i + 1) = wS s p i * (100 - nth s i 0) := by
            simp only [wS]
            rw [if_pos (.inr e0)]
            unfold ch; rw [if_neg e1, if_pos e0]
          rw [e] at g hw
          simp only [if_neg e1, if_pos e0]
          rw [w64 (x := 100 - nth s i 0) (by omega), w64 (by omega)]
          exact g
        · have e : wS s p (i + 1) = wS s p i := by
            simp only [wS]
            rw [if_neg (by omega), Int.mul_one]
          rw [e] at g
          simp only [if_neg e1, if_neg e0]
          exact g
  exact main 8 0 rfl (by omega)
theorem iWeightLoop {s p : List Int} (h : Fit s p) (x f t a b : Int) : Ev (fun k => impl_weight.l0 k 1 0 x s f t p a b) (wS s p 8 * wU p 8) := by
  have main : ∀ n (i : Nat), 8 - i = n → i ≤ 8 → Ev (fun k => impl_weight.l0 k (wS s p i * wU p i) (i : Int) x s f t p a b) (wS s p 8 * wU p 8) := by
    intro n
    induction n with
    | zero =>
      intro i hn hi
      have hi8 : i = 8 := by omega
      subst hi8
      refine Ev.succ ?_
      simp only [impl_weight.l0, if_neg (show ¬ (((8 : Nat) : Int) < 8) by omega)]
      exact Ev.now _
    | succ n ih =>
      intro i hn hi
      have hi8 : i < 8 := by omega
      have hw := wS_le h (i + 1) (by omega)
      have g := ih (i + 1) (by omega) (by omega)
      have e : wS s p (i + 1) * wU p (i + 1) = wS s p i * wU p i * ch s p i := by
        simp only [wS, wU]
        by_cases e : nth p i 0 = 1 ∨ nth p i 0 = 0
        · rw [if_pos e, if_pos e, Int.mul_one, Int.mul_right_comm]
        · rw [if_neg e, if_neg e, ch_u i e, Int.mul_one, Int.mul_assoc]
      rw [e] at g hw
      refine Ev.succ ?_
      simp only [impl_weight.l0, if_pos (show (i : Int) < 8 by omega), iChance h x f t a b i hi8, Option.bind_some, stepI i (by omega)]
      rw [w64 (by omega)]
      exact g
  have := main 8 0 rfl (by omega)
  rwa [show wS s p 0 * wU p 0 = 1 from rfl] at this
/-- The weight of a school, and what the program takes for it. -/
def wt (s p : List Int) (f t a b : Int) : Int := if can s p f t a b = true then wS s p 8 else 0
theorem weightBoth {s p : List Int} (h : Fit s p) (x f t a b : Int) (hf : f ≤ t) (ha : a ≤ b) : Ev (fun k => spec_l20Weight.f k x s f t p a b) (wt s p f t a b) ∧ Ev (fun k => impl_weight.f k x s f t p a b) (wt s p f t a b * wU p 8) := by
  obtain ⟨c1, c2⟩ := canBoth h x f t a b hf ha
  unfold spec_l20Weight.f impl_weight.f wt
  constructor
  · refine Ev.bind c1 ?_
    by_cases e : can s p f t a b = true
    · simp only [e, if_true]; exact sWeightLoop h x f t a b
    · simp only [e, Bool.false_eq_true, if_false]; exact Ev.now _
  · refine Ev.bind c2 ?_
    by_cases e : can s p f t a b = true
    · simp only [e, if_true]; exact iWeightLoop h x f t a b
    · simp only [e, Bool.false_eq_true, if_false, Int.zero_mul]; exact Ev.now _
theorem fit_at {l : List S69} {m : List Int} {a b : Int} (h : both l m a b = true) (i : Nat) (hi : i < l.length) : Fit (nth l i z69).f1 m ∧ (nth l i z69).f2 ≤ (nth l i z69).f3 ∧ a ≤ b := by
  obtain ⟨_, hs, h1, h2, h3⟩ := both_at h
  obtain ⟨g1, g2, g3, _⟩ := hs i hi
  exact ⟨⟨g1, h1, g2, h2⟩, by omega, by omega⟩
end Go.Proofs.Ytblihmohgfmpgaa.M

namespace Go.Proofs.YtblihmohgfmpgaaW.SL
open Go Go.RowKit Go.Proofs.YtblihmohgfmpgaaW.PrintWords
set_option linter.unusedSimpArgs false
set_option linter.unusedVariables false

/-! ### slots -/
abbrev Sl := List (Nat × Value)
def lk : Sl → Nat → Option Value
  | [], _ => none
  | (k, v) :: r, t => bif Nat.beq k t then some v else lk r t
def ev (L : Sl) : Operand → Option Value
  | .tmp t => lk L t
  | .const v => some v
  | .global g => some (.pointer (some ⟨g, 0, none⟩))
  | .func f => some (.func (.func f) #[] #[])
def evs (L : Sl) : List Operand → Option (List Value)
  | [] => some []
  | x :: r => match ev L x, evs L r with
    | some v, some vs => some (v :: vs)
    | _, _ => none
structure Fr (N : Nat) (a : Act) (L : Sl) : Prop where
  size : N ≤ a.tmps.size
  defers : a.defers = []
  at_ : ∀ t v, lk L t = some v → a.tmps[t]? = some v
section
variable {N : Nat} {a : Act} {L L' : Sl} {x : Operand} {v : Value}
theorem beq_no {k t : Nat} (e : ¬ k = t) : Nat.beq k t = false := by
  cases h : Nat.beq k t with
  | false => rfl
  | true => exact absurd (Nat.eq_of_beq_eq_true h) e
theorem Fr.ev (h : Fr N a L) (hx : ev L x = some v) : a.eval x = v := by
  cases x with
  | tmp t =>
    have := h.at_ t v hx
    simp only [Act.eval, Array.getD_eq_getD_getElem?, this, Option.getD_some]
  | const w => simpa [SL.ev, Act.eval] using hx
  | global g => simpa [SL.ev, Act.eval] using hx
  | func f => simpa [SL.ev, Act.eval] using hx
theorem Fr.evs (h : Fr N a L) : ∀ {xs : List Operand} {vs : List Value}, evs L xs = some vs → xs.map a.eval = vs
  | [], vs, hx => by simpa [SL.evs] using hx
  | x :: r, vs, hx => by
    unfold SL.evs at hx
    cases h1 : SL.ev L x with
    | none => simp [h1] at hx
    | some v =>
      cases h2 : SL.evs L r with
      | none => simp [h1, h2] at hx
      | some vs' =>
        simp only [h1, h2, Option.some.injEq] at hx
        subst hx
        simp [h.ev h1, h.evs h2]
theorem Fr.put (h : Fr N a L) {d : Nat} (hd : Nat.blt d N = true) (v : Value) : Fr N (a.put (some d) v) ((d, v) :: L) := by
  have hd' : d < N := by simpa [Nat.blt_eq] using hd
  refine ⟨by simpa [Act.put] using h.size, h.defers, fun t u hu => ?_⟩
  unfold lk at hu
  simp only [Act.put]
  by_cases e : d = t
  · subst e
    rw [show Nat.beq d d = true by simp] at hu
    simp only [cond_true, Option.some.injEq] at hu
    subst hu
    have := h.size
    rw [Array.getElem?_setIfInBounds_self_of_lt (by omega)]
  · rw [beq_no e] at hu
    simp only [cond_false] at hu
    rw [Array.getElem?_setIfInBounds_ne (by omega)]
    exact h.at_ t u hu
theorem Fr.put_none (h : Fr N a L) (v : Value) : Fr N (a.put none v) L := h
/-- What is told of the slots in L' is told in L. -/
def Sub : Sl → Sl → Prop
  | [], _ => True
  | p :: r, L => lk L p.1 = some p.2 ∧ Sub r L
theorem Sub.lk : ∀ {L' L : Sl}, Sub L' L → ∀ t v, lk L' t = some v → lk L t = some v
  | [], _, _, t, v, h => by simp [SL.lk] at h
  | p :: r, L, ⟨h1, h2⟩, t, v, h => by
    obtain ⟨k, u⟩ := p
    unfold SL.lk at h
    by_cases e : k = t
    · subst e
      rw [show Nat.beq k k = true by simp] at h
      simp only [cond_true, Option.some.injEq] at h
      subst h
      exact h1
    · rw [beq_no e] at h
      exact Sub.lk h2 t v h
theorem Fr.sub (h : Fr N a L) (hs : Sub L' L) : Fr N a L' := ⟨h.size, h.defers, fun t v hv => h.at_ t v (hs.lk t v hv)⟩
end
/-- Is the operation carried out (its guard)? -/
def wants (ops : Array Oper) (L : Sl) (o : Oper) : Option Bool :=
  match o.guard with
  | none => some true
  | some (j, want) => match (ops[j]?).bind (·.dst) with
    | none => none
    | some t => match lk L t with
      | some (.bool b) => some (b == want)
      | some (.tuple _) => some false
      | _ => none
theorem Fr.wants {N : Nat} {a : Act} {L : Sl} {ops : Array Oper} {o : Oper} {b : Bool} (h : Fr N a L) (hw : wants ops L o = some b) : Region.wanted o (yielded ops a.tmps) = b := by
  unfold SL.wants at hw
  unfold Region.wanted
  cases hg : o.guard with
  | none => simp only [hg, Option.some.injEq] at hw ⊢; exact hw
  | some p =>
    obtain ⟨j, want⟩ := p
    simp only [hg] at hw ⊢
    cases hj : (ops[j]?).bind (·.dst) with
    | none => simp [hj] at hw
    | some t =>
      simp only [hj] at hw
      cases hl : lk L t with
      | none => simp [hl] at hw
      | some u =>
        have := h.at_ t _ hl
        unfold yielded
        rw [hj, Option.bind_some, this]
        cases u <;> simp only [hl, Option.some.injEq, reduceCtorEq] at hw
        · rename_i c
          rw [← hw]
          cases c <;> cases want <;> rfl
        · rw [← hw]
          rfl

/-! ### memory -/
/-- A thing in memory that may be written: p w S: it is there, in the blocks S. -/
structure ItemS where
  p : World → (Nat → Prop) → Prop
  lt : ∀ {w S k}, p w S → S k → k < w.heap.size
  loc : ∀ {w w' : World} {S}, p w S → (∀ k, S k → w'.heap[k]? = w.heap[k]?) → p w' S
/-- A block of the call's own; a row of its own (elements of kind d and type e, made from block b on); anything else. -/
inductive Item : Type 1
  | box (g T : Nat) (cs : List Value)
  | row {α : Type} (d : Kd α) (e b : Nat) (v : Value) (xs : List α)
  /-- As row; no two elements lead to one block. -/
  | rowS {α : Type} (d : Kd α) (e b : Nat) (v : Value) (xs : List α)
  /-- As rowS, without element i: its cells are c, what it leads to (u) is told apart. -/
  | lent {α : Type} (d : Kd α) (e b : Nat) (v : Value) (xs : List α) (i : Int) (c : List Value) (u : Value)
  | any (i : ItemS)
def Item.p : Item → World → (Nat → Prop) → Prop
  | .box g T cs, w, S => w.heap[g]? = some (.cells cs.toArray T (0, 0)) ∧ ∀ k, S k ↔ k = g
  | .row d e b v xs, w, S => d.R e w b S v xs ∧ ∀ k, S k → k < w.heap.size
  | .rowS d e b v xs, w, S => Kd.S d e w b S v xs ∧ ∀ k, S k → k < w.heap.size
  | .lent d e b v xs i c u, w, S => ∃ ok oki : Nat → Prop, Kd.H d e w b ok v xs i oki c ∧ (∀ k, u.ownBlock = some k → oki k) ∧ (∀ k, S k ↔ (ok k ∧ ¬ oki k) ∧ k < w.heap.size) ∧ ∀ k, oki k → k < w.heap.size
  | .any i, w, S => i.p w S
theorem Item.lt : ∀ (i : Item) {w : World} {S : Nat → Prop} {k : Nat}, i.p w S → S k → k < w.heap.size
  | .box g T cs, w, S, k, h, hk => by rw [(h.2 k).1 hk]; exact blk_lt h.1
  | .row d e b v xs, w, S, k, h, hk => h.2 k hk
  | .rowS d e b v xs, w, S, k, h, hk => h.2 k hk
  | .lent d e b v xs i c u, w, S, k, ⟨_, _, _, _, h, _⟩, hk => ((h k).1 hk).2
  | .any i, w, S, k, h, hk => i.lt h hk
theorem Item.loc : ∀ (i : Item) {w w' : World} {S : Nat → Prop}, i.p w S → w.heap.size ≤ w'.heap.size → (∀ k, S k → w'.heap[k]? = w.heap[k]?) → i.p w' S
  | .box g T cs, w, w', S, h, _, hm => ⟨(hm g ((h.2 g).2 rfl)).trans h.1, h.2⟩
  | .row d e b v xs, w, w', S, h, hs, hm => ⟨Kd.R_move h.1 hm, fun k hk => Nat.lt_of_lt_of_le (h.2 k hk) hs⟩
  | .rowS d e b v xs, w, w', S, h, hs, hm => ⟨Kd.S_move h.1 hm, fun k hk => Nat.lt_of_lt_of_le (h.2 k hk) hs⟩
  | .lent d e b v xs i c u, w, w', S, ⟨ok, oki, h1, h2, h3, h4⟩, hs, hm => by
    have hb : Kd.H d e w b (fun k => ok k ∧ k < w.heap.size) v xs i oki c := by
      obtain ⟨g0, f, g1⟩ := h1
      exact ⟨fun k hk => ⟨g0 k hk, h4 k hk⟩, f, Kd.R_mono (Kd.R_bound g1) (fun k hk => ⟨⟨hk.1.1, hk.2.2.1⟩, hk.1.2⟩)⟩
    refine ⟨fun k => ok k ∧ k < w.heap.size, oki, Kd.H_step hb (fun k hk hn hlt => hm k ((h3 k).2 ⟨⟨hk.1, hn⟩, hlt⟩)), h2, fun k => ?_, fun k hk => Nat.lt_of_lt_of_le (h4 k hk) hs⟩
    rw [h3 k]
    constructor
    · rintro ⟨⟨g1, g2⟩, g3⟩
      exact ⟨⟨⟨g1, g3⟩, g2⟩, by omega⟩
    · rintro ⟨⟨⟨g1, g3⟩, g2⟩, _⟩
      exact ⟨⟨g1, g2⟩, g3⟩
  | .any i, w, w', S, h, _, hm => i.loc h hm
/-- All items, apart from one another, in the blocks S. -/
def Own : List Item → World → (Nat → Prop) → Prop
  | [], _, S => ∀ k, ¬ S k
  | i :: r, w, S => ∃ A B, i.p w A ∧ Own r w B ∧ (∀ k, S k ↔ A k ∨ B k) ∧ ∀ k, A k → ¬ B k
theorem Own.lt : ∀ {its : List Item} {w : World} {S : Nat → Prop}, Own its w S → ∀ k, S k → k < w.heap.size
  | [], _, _, h, k, hk => absurd hk (h k)
  | i :: r, w, S, ⟨A, B, h1, h2, h3, _⟩, k, hk => ((h3 k).1 hk).elim (fun ha => i.lt h1 ha) (fun hb => h2.lt k hb)
theorem Own.loc : ∀ {its : List Item} {w w' : World} {S : Nat → Prop}, Own its w S → w.heap.size ≤ w'.heap.size → (∀ k, S k → w'.heap[k]? = w.heap[k]?) → Own its w' S
  | [], _, _, _, h, _, _ => h
  | i :: r, w, w', S, ⟨A, B, h1, h2, h3, h4⟩, hs, hm => ⟨A, B, i.loc h1 hs (fun k hk => hm k ((h3 k).2 (.inl hk))), h2.loc hs (fun k hk => hm k ((h3 k).2 (.inr hk))), h3, h4⟩
/-- Item n by itself; and what stands there behind it. -/
theorem Own.focus : ∀ {its : List Item} {n : Nat} {i : Item} {w : World} {S : Nat → Prop}, its[n]? = some i → Own its w S → ∃ A, i.p w A ∧ (∀ k, A k → S k) ∧
    ∀ (w' : World) (i' : Item) (A' : Nat → Prop), i'.p w' A' → w.heap.size ≤ w'.heap.size → (∀ k, A' k → ¬ S k ∨ A k) → (∀ k, S k → ¬ A k → w'.heap[k]? = w.heap[k]?) → Own (its.set n i') w' (fun k => A' k ∨ (S k ∧ ¬ A k))
  | [], _, _, _, _, hn, _ => by simp at hn
  | j :: r, 0, i, w, S, hn, ⟨A, B, h1, h2, h3, h4⟩ => by
    obtain rfl : j = i := by simpa using hn
    refine ⟨A, h1, fun k hk => (h3 k).2 (.inl hk), fun w' i' A' hi' hs hA' hm => ?_⟩
    refine ⟨A', B, hi', h2.loc hs (fun k hk => hm k ((h3 k).2 (.inr hk)) (fun ha => h4 k ha hk)), fun k => ?_, fun k hk hb => ?_⟩
    · constructor
      · rintro (h | ⟨h5, h6⟩)
        · exact .inl h
        · exact .inr (((h3 k).1 h5).resolve_left h6)
      · rintro (h | h)
        · exact .inl h
        · exact .inr ⟨(h3 k).2 (.inr h), fun ha => h4 k ha h⟩
    · rcases hA' k hk with h | h
      · exact h ((h3 k).2 (.inr hb))
      · exact h4 k h hb
  | j :: r, n + 1, i, w, S, hn, ⟨A, B, h1, h2, h3, h4⟩ => by
    obtain ⟨C, g1, g2, g3⟩ := Own.focus (its := r) (n := n) (by simpa using hn) h2
    refine ⟨C, g1, fun k hk => (h3 k).2 (.inr (g2 k hk)), fun w' i' A' hi' hs hA' hm => ?_⟩
    refine ⟨A, fun k => A' k ∨ (B k ∧ ¬ C k), j.loc h1 hs (fun k hk => hm k ((h3 k).2 (.inl hk)) (fun hc => h4 k hk (g2 k hc))), g3 w' i' A' hi' hs (fun k hk => ?_) (fun k hb hc => hm k ((h3 k).2 (.inr hb)) hc), fun k => ?_, fun k hk hb => ?_⟩
    · rcases hA' k hk with h | h
      · exact .inl (fun hb => h ((h3 k).2 (.inr hb)))
      · exact .inr h
    · constructor
      · rintro (h | ⟨h5, h6⟩)
        · exact .inr (.inl h)
        · rcases (h3 k).1 h5 with h | h
          · exact .inl h
          · exact .inr (.inr ⟨h, h6⟩)
      · rintro (h | h | ⟨h5, h6⟩)
        · exact .inr ⟨(h3 k).2 (.inl h), fun hc => h4 k h (g2 k hc)⟩
        · exact .inl h
        · exact .inr ⟨(h3 k).2 (.inr h5), h6⟩
    · rcases hb with h | ⟨h5, h6⟩
      · rcases hA' k h with h' | h'
        · exact h' ((h3 k).2 (.inl hk))
        · exact h4 k hk (g2 k h')
      · exact h4 k hk h5
/-- Two as one. -/
theorem Own.one : ∀ {its : List Item} {n : Nat} {j1 j2 i : Item} {w : World} {S : Nat → Prop}, its[n]? = some j1 → Own (j2 :: its) w S → (∀ A1 A2 : Nat → Prop, j1.p w A1 → j2.p w A2 → (∀ k, A1 k → ¬ A2 k) → i.p w (fun k => A1 k ∨ A2 k)) → Own (its.set n i) w S := by
  intro its n j1 j2 i w S hn ⟨A2, C, h1, h2, h3, h4⟩ hi
  obtain ⟨A1, g1, g2, g3⟩ := h2.focus hn
  have hi' := hi A1 A2 g1 h1 (fun k hk h' => h4 k h' (g2 k hk))
  have hO := g3 w i _ hi' (Nat.le_refl _) (fun k hk => hk.elim .inr (fun h => .inl (fun hc => h4 k h hc))) (fun _ _ _ => rfl)
  refine (show (fun k => (A1 k ∨ A2 k) ∨ (C k ∧ ¬ A1 k)) = S from funext fun k => propext ?_) ▸ hO
  rw [h3 k]
  constructor
  · rintro ((h | h) | h)
    · exact .inr (g2 k h)
    · exact .inl h
    · exact .inr h.1
  · rintro (h | h)
    · exact .inl (.inr h)
    · by_cases ha : A1 k
      · exact .inl (.inl ha)
      · exact .inr ⟨h, ha⟩
/-- Item n taken out. -/
theorem Own.out : ∀ {its : List Item} {n : Nat} {i : Item} {w : World} {S : Nat → Prop}, its[n]? = some i → Own its w S → ∃ A B, i.p w A ∧ Own (its.eraseIdx n) w B ∧ (∀ k, S k ↔ A k ∨ B k) ∧ ∀ k, A k → ¬ B k
  | [], _, _, _, _, hn, _ => by simp at hn
  | j :: r, 0, i, w, S, hn, ⟨A, B, h1, h2, h3, h4⟩ => by
    obtain rfl : j = i := by simpa using hn
    exact ⟨A, B, h1, h2, h3, h4⟩
  | j :: r, n + 1, i, w, S, hn, ⟨A, B, h1, h2, h3, h4⟩ => by
    obtain ⟨C, D, g1, g2, g3, g4⟩ := Own.out (its := r) (n := n) (by simpa using hn) h2
    refine ⟨C, fun k => A k ∨ D k, g1, ⟨A, D, h1, g2, fun k => Iff.rfl, fun k ha hd => h4 k ha ((g3 k).2 (.inr hd))⟩, fun k => ?_, fun k hc hd => ?_⟩
    · rw [h3 k, g3 k]
      constructor
      · rintro (h | h | h)
        · exact .inr (.inl h)
        · exact .inl h
        · exact .inr (.inr h)
      · rintro (h | h | h)
        · exact .inr (.inl h)
        · exact .inl h
        · exact .inr (.inr h)
    · rcases hd with h | h
      · exact h4 k h ((g3 k).2 (.inl hc))
      · exact g4 k hc h
/-- W is w but for the blocks S and new ones. -/
structure Aft (S : Nat → Prop) (w W : World) : Prop where
  os : W.os = w.os
  tape : W.tape = w.tape
  output : W.output = w.output
  size : w.heap.size ≤ W.heap.size
  block : ∀ k, k < w.heap.size → ¬ S k → W.heap[k]? = w.heap[k]?
theorem Aft.refl (S : Nat → Prop) (w : World) : Aft S w w := ⟨rfl, rfl, rfl, Nat.le_refl _, fun _ _ _ => rfl⟩
theorem Aft.trans {S S' : Nat → Prop} {w w' W : World} (h : Aft S w w') (h' : Aft S' w' W) (hS : ∀ k, S' k → k < w.heap.size → S k) : Aft S w W :=
  ⟨h'.os.trans h.os, h'.tape.trans h.tape, h'.output.trans h.output, Nat.le_trans h.size h'.size, fun k hlt hn => (h'.block k (Nat.lt_of_lt_of_le hlt h.size) (fun hs => hn (hS k hs hlt))).trans (h.block k hlt hn)⟩
theorem Aft.of_below {w w' : World} (S : Nat → Prop) (h : Below w.heap.size w w') : Aft S w w' := ⟨h.os, h.tape, h.output, h.size, fun k hk _ => h.block k hk⟩
theorem Aft.below {S : Nat → Prop} {w w' : World} {B : Nat} (h : Aft S w w') (hB : B ≤ w.heap.size) (hS : ∀ k, S k → B ≤ k) : Below B w w' := ⟨h.os, h.tape, h.output, h.size, fun k hk => h.block k (by omega) (fun hs => by have := hS k hs; omega)⟩
theorem Aft.all {w w' : World} {S : Nat → Prop} (h : Aft S w w') (hS : ∀ k, k < w.heap.size → ¬ S k) : Below w.heap.size w w' := ⟨h.os, h.tape, h.output, h.size, fun k hk => h.block k hk (hS k hk)⟩
/-- A fact that lasts: whatever happens to the blocks S and to new ones. -/
def Sta (S : Nat → Prop) (w : World) (p : World → Prop) : Prop := ∀ W : World, Aft S w W → p W
theorem Sta.now {S : Nat → Prop} {w : World} {p : World → Prop} (h : Sta S w p) : p w := h w (Aft.refl S w)
theorem Sta.step {S S' : Nat → Prop} {w w' : World} {p : World → Prop} (h : Sta S w p) (ha : Aft S w w') (hS : ∀ k, S' k → k < w.heap.size → S k) : Sta S' w' p :=
  fun W hW => h W (ha.trans hW hS)
theorem Sta.imp {S : Nat → Prop} {w : World} {p q : World → Prop} (h : Sta S w p) (hq : ∀ W, p W → q W) : Sta S w q := fun W h1 => hq W (h W h1)
/-- Where a call began: its world, and what of it the call may write. -/
structure Base where
  w : World
  S : Nat → Prop
abbrev base (w : World) : Base := ⟨w, fun _ => False⟩
/-- The world at some point of a call that began at B. -/
structure WS (B : Base) (w : World) (its : List Item) (ps : List (World → Prop)) : Prop where
  aft : Aft B.S B.w w
  own : ∃ S, Own its w S ∧ (∀ k, S k → B.S k ∨ B.w.heap.size ≤ k) ∧ ∀ p ∈ ps, Sta S w p
section
variable {B : Base} {w w' : World} {its its' : List Item} {ps ps' : List (World → Prop)}
theorem WS.start (w : World) : WS (base w) w [] [] := ⟨Aft.refl _ _, fun _ => False, fun k h => h, fun k h => h.elim, fun p hp => by cases hp⟩
theorem WS.startW {w : World} {S : Nat → Prop} (h : Own its w S) (hp : ∀ p ∈ ps, Sta S w p) : WS ⟨w, S⟩ w its ps := ⟨Aft.refl _ _, S, h, fun k h => .inl h, hp⟩
theorem WS.below {w0 : World} (h : WS (base w0) w its ps) : Below w0.heap.size w0 w := h.aft.all (fun _ _ hk => hk)
theorem WS.size (h : WS B w its ps) : B.w.heap.size ≤ w.heap.size := h.aft.size
/-- Nothing of what was there has been touched. -/
theorem WS.call (h : WS B w its ps) (hb : Below w.heap.size w w') : WS B w' its ps := by
  obtain ⟨h1, S, h2, h3, h4⟩ := h
  exact ⟨h1.trans (Aft.of_below (fun _ => False) hb) (fun k hk _ => hk.elim), S, h2.loc hb.size (fun k hk => hb.block k (h2.lt k hk)), h3, fun p hp => (h4 p hp).step (Aft.of_below S hb) (fun k hk _ => hk)⟩
theorem WS.fact (h : WS B w its ps) {p : World → Prop} (hp : p ∈ ps) : p w := by
  obtain ⟨_, S, _, _, h4⟩ := h
  exact (h4 p hp).now
theorem WS.at (h : WS B w its ps) (n : Nat) {p : World → Prop} (hn : ps[n]? = some p) : p w := h.fact (List.mem_of_getElem? hn)
theorem WS.sub (h : WS B w its ps) (hs : ∀ p ∈ ps', p ∈ ps) : WS B w its ps' := by
  obtain ⟨h1, S, h2, h3, h4⟩ := h
  exact ⟨h1, S, h2, h3, fun p hp => h4 p (hs p hp)⟩
theorem WS.imp (h : WS B w its ps) {p q : World → Prop} (hp : p ∈ ps) (hq : ∀ W, p W → q W) : WS B w its (q :: ps) := by
  obtain ⟨h1, S, h2, h3, h4⟩ := h
  refine ⟨h1, S, h2, h3, fun r hr => ?_⟩
  rcases List.mem_cons.1 hr with rfl | hr
  · exact (h4 p hp).imp hq
  · exact h4 r hr
/-- One more item, in new blocks. -/
theorem WS.new (h : WS B w its ps) (hb : Below w.heap.size w w') {i : Item} {A : Nat → Prop} (hi : i.p w' A) (hA : ∀ k, A k → w.heap.size ≤ k) : WS B w' (i :: its) ps := by
  have hc := h.call hb
  obtain ⟨h1, S, h2, h3, h4⟩ := h
  refine ⟨hc.aft, fun k => A k ∨ S k, ⟨A, S, hi, h2.loc hb.size (fun k hk => hb.block k (h2.lt k hk)), fun k => Iff.rfl, fun k ha hs => by have := hA k ha; have := h2.lt k hs; omega⟩, ?_, fun p hp => (h4 p hp).step (Aft.of_below S hb) (fun k hk hlt => ?_)⟩
  · rintro k (hk | hk)
    · exact .inr (Nat.le_trans h1.size (hA k hk))
    · exact h3 k hk
  · rcases hk with hk | hk
    · have := hA k hk; omega
    · exact hk
/-- Item n is another one now; nothing else was touched. -/
theorem WS.upd (h : WS B w its ps) {n : Nat} {i i' : Item} (hn : its[n]? = some i)
    (hw : ∀ A, i.p w A → (∀ k, A k → B.S k ∨ B.w.heap.size ≤ k) → ∃ A', i'.p w' A' ∧ (∀ k, A' k → k < w.heap.size → A k) ∧ Aft A w w') : WS B w' (its.set n i') ps := by
  obtain ⟨h1, S, h2, h3, h4⟩ := h
  obtain ⟨A, g1, g2, g3⟩ := h2.focus hn
  obtain ⟨A', e1, e2, e3⟩ := hw A g1 (fun k hk => h3 k (g2 k hk))
  have hS := h2.lt
  have e3' : Aft S w w' := ⟨e3.os, e3.tape, e3.output, e3.size, fun k hk hn => e3.block k hk (fun ha => hn (g2 k ha))⟩
  refine ⟨h1.trans e3 (fun k hk hlt => (h3 k (g2 k hk)).resolve_right (by omega)), _, g3 w' i' A' e1 e3.size (fun k hk => ?_) (fun k hs ha => e3.block k (hS k hs) ha), ?_, fun p hp => (h4 p hp).step e3' ?_⟩
  · by_cases hlt : k < w.heap.size
    · exact .inr (e2 k hk hlt)
    · exact .inl (fun hs => hlt (hS k hs))
  · rintro k (hk | hk)
    · by_cases hlt : k < w.heap.size
      · exact h3 k (g2 k (e2 k hk hlt))
      · exact .inr (Nat.le_trans h1.size (by omega))
    · exact h3 k hk.1
  · rintro k (hk | hk) hlt
    · exact g2 k (e2 k hk hlt)
    · exact hk.1
/-- Item n is written no more: a fact on it that lasts. -/
theorem WS.freeze (h : WS B w its ps) {n : Nat} {i : Item} (hn : its[n]? = some i) {p : World → Prop} (hp : ∀ W A, i.p W A → p W) : WS B w (its.eraseIdx n) (p :: ps) := by
  obtain ⟨h1, S, h2, h3, h4⟩ := h
  obtain ⟨A, B', g1, g2, g3, g4⟩ := h2.out hn
  refine ⟨h1, B', g2, fun k hk => h3 k ((g3 k).2 (.inr hk)), fun q hq => ?_⟩
  rcases List.mem_cons.1 hq with rfl | hq
  · exact fun W hm => hp W A (i.loc g1 hm.size (fun k hk => hm.block k (i.lt g1 hk) (g4 k hk)))
  · exact (h4 q hq).step (Aft.refl S w) (fun k hk _ => (g3 k).2 (.inr hk))
theorem WS.drop (h : WS B w its ps) {n : Nat} {i : Item} (hn : its[n]? = some i) : WS B w (its.eraseIdx n) ps := by
  have := h.freeze hn (p := fun _ => True) (fun _ _ _ => trivial)
  exact this.sub (fun p hp => List.mem_cons_of_mem _ hp)
/-- An item by itself. -/
theorem WS.item (h : WS B w its ps) {i : Item} (hi : i ∈ its) : ∃ A, i.p w A := by
  obtain ⟨_, S, h2, _, _⟩ := h
  obtain ⟨n, hn⟩ := List.mem_iff_getElem?.1 hi
  obtain ⟨A, g1, _⟩ := h2.focus hn
  exact ⟨A, g1⟩
end
end Go.Proofs.YtblihmohgfmpgaaW.SL

namespace Go.Proofs.YtblihmohgfmpgaaW.SL
open Go Go.RowKit Go.Proofs.YtblihmohgfmpgaaW.PrintWords
set_option linter.unusedSimpArgs false
set_option linter.unusedVariables false

/-- The cells from an address on. -/
def Cells (w : World) (ad : Addr) (cs : List Value) : Prop := ∀ j u, cs[j]? = some u → w.cell? (ad.add j) = some u

/-! #### the operations of a region, in the text's order -/
/-- Which operations of a region that draws its order are taken first; which come last of all. -/
structure Dm where
  takes : Nat → Bool
  needs : Nat → Bool
abbrev plain : Dm := ⟨fun _ => false, fun _ => false⟩
def runG (P : Program) (ops : Array Oper) (Q : Exit → Act → World → Prop) (D : Dm) : Nat → List Oper → Act → World → Prop
  | _, [], a, w => Q .normal a w
  | k, o :: r, a, w =>
    if D.takes k = true then ∃ v, YieldsIf P ops (fun W => Below w.heap.size w W) o v a ∧ runG P ops Q D (k + 1) r (a.put o.dst v) w
    else if Region.wanted o (yielded ops a.tmps) = true then o.wp P a w (fun a' w' => (D.needs k = true → Below w.heap.size w w') ∧ runG P ops Q D (k + 1) r a' w') Q
    else runG P ops Q D (k + 1) r (a.put o.dst undef) w
theorem wpList_of_run {P : Program} {ops : Array Oper} {Q : Exit → Act → World → Prop} : ∀ (l : List Oper) (k : Nat) (a : Act) (w : World), runG P ops Q plain k l a w → wpList P ops Q l a w
  | [], _, _, _, h => h
  | o :: r, k, a, w, h => by
    unfold runG at h
    rw [if_neg (by simp)] at h
    unfold wpList
    split
    · rename_i hw
      rw [if_pos hw] at h
      exact .inl (Oper.wp_mono (fun a' w' h' => wpList_of_run r (k + 1) a' w' h'.2) h)
    · rename_i hw
      rw [if_neg hw] at h
      exact wpList_of_run r (k + 1) _ _ h

section
variable (P : Program) (N : Nat) (B : Base)
/-- From the slots L, the items its, the facts ps on: K. -/
structure Ej (K : Act → World → Prop) (L : Sl) (its : List Item) (ps : List (World → Prop)) : Prop where
  mk :: (out : ∀ a w, Fr N a L → WS B w its ps → K a w)
structure Jl (D : Dm) (k : Nat) (ops : Array Oper) (Q : Exit → Act → World → Prop) (rest : List Oper) (L : Sl) (its : List Item) (ps : List (World → Prop)) : Prop where
  mk :: (out : ∀ a w, Fr N a L → WS B w its ps → runG P ops Q D k rest a w)
structure Cj (c : Code) (Q : Exit → Act → World → Prop) (L : Sl) (its : List Item) (ps : List (World → Prop)) : Prop where
  mk :: (out : ∀ a w, Fr N a L → WS B w its ps → c.wp P Q a w)
/-- The operation yields v and touches nothing. -/
structure Yd (o : Oper) (v : Value) (L : Sl) (its : List Item) (ps : List (World → Prop)) : Prop where
  mk :: (out : ∀ a w, Fr N a L → WS B w its ps → (execOp a.eval o).run P w = .ok (.value v) w)
end

section
variable {P : Program} {N : Nat} {B : Base} {L L' : Sl} {its its' : List Item} {ps ps' : List (World → Prop)} {Q : Exit → Act → World → Prop} {D : Dm} {k : Nat} {ops : Array Oper} {rest : List Oper} {o : Oper} {c c1 c2 : Code} {d t T n : Nat} {v v2 : Value} {b : Bool}

instance {K : Act → World → Prop} : CoeFun (Ej N B K L its ps) (fun _ => ∀ a w, Fr N a L → WS B w its ps → K a w) := ⟨Ej.out⟩
instance : CoeFun (Jl P N B D k ops Q rest L its ps) (fun _ => ∀ a w, Fr N a L → WS B w its ps → runG P ops Q D k rest a w) := ⟨Jl.out⟩
instance : CoeFun (Cj P N B c Q L its ps) (fun _ => ∀ a w, Fr N a L → WS B w its ps → c.wp P Q a w) := ⟨Cj.out⟩
instance : CoeFun (Yd P N B o v L its ps) (fun _ => ∀ a w, Fr N a L → WS B w its ps → (execOp a.eval o).run P w = .ok (.value v) w) := ⟨Yd.out⟩
/-! #### code -/
theorem Cj.seq (hc : c = .seq c1 c2) (h : Cj P N B c1 (Exit.then (c2.wp P Q) Q) L its ps) : Cj P N B c Q L its ps := by
  subst hc
  refine ⟨?_⟩
  exact fun a w hf hw => wp_seq (h a w hf hw)
theorem Cj.region {id : Nat} (hc : c = .region id ops false) (h : Jl P N B plain 0 ops Q ops.toList L its ps) : Cj P N B c Q L its ps := by
  subst hc
  refine ⟨?_⟩
  exact fun a w hf hw => wp_region_list (wpList_of_run _ _ _ _ (h a w hf hw))
theorem Cj.cond {z : Operand} (hc : c = .cond z c1 c2) (hz : ev L z = some (.bool b)) (ht : b = true → Cj P N B c1 Q L its ps) (hf : b = false → Cj P N B c2 Q L its ps) : Cj P N B c Q L its ps := by
  subst hc
  refine ⟨?_⟩
  exact fun a w hF hw => wp_cond_split (hF.ev hz) (fun e => ht e a w hF hw) (fun e => hf e a w hF hw)
theorem Cj.condT {z : Operand} (hc : c = .cond z c1 c2) (hz : ev L z = some (.bool true)) (h : Cj P N B c1 Q L its ps) : Cj P N B c Q L its ps :=
  Cj.cond hc hz (fun _ => h) (fun e => by cases e)
theorem Cj.condF {z : Operand} (hc : c = .cond z c1 c2) (hz : ev L z = some (.bool false)) (h : Cj P N B c2 Q L its ps) : Cj P N B c Q L its ps :=
  Cj.cond hc hz (fun e => by cases e) (fun _ => h)
theorem Cj.block {id : Nat} (hc : c = .block id c1) (h : Cj P N B c1 (Exit.inBlock id Q) L its ps) : Cj P N B c Q L its ps := by
  subst hc
  refine ⟨?_⟩
  exact fun a w hf hw => wp_block (h a w hf hw)
theorem Cj.skip (hc : c = .skip) (h : Ej N B (Q .normal) L its ps) : Cj P N B c Q L its ps := by
  subst hc
  refine ⟨?_⟩
  exact fun a w hf hw => wp_skip (h a w hf hw)
theorem Cj.exit {id : Nat} (hc : c = .exit id) (h : Ej N B (Q (.exit id)) L its ps) : Cj P N B c Q L its ps := by
  subst hc
  refine ⟨?_⟩
  exact fun a w hf hw => wp_exit (h a w hf hw)
theorem Cj.ret (hc : c = .ret) (h : Ej N B (Q .ret) L its ps) : Cj P N B c Q L its ps := by
  subst hc
  refine ⟨?_⟩
  exact fun a w hf hw => wp_ret (h a w hf hw)
theorem Jl.nil (h : Ej N B (Q .normal) L its ps) : Jl P N B D k ops Q [] L its ps := .mk <| fun a w hf hw => h a w hf hw
/-- What follows is known to be this code. -/
theorem Ej.go {K : Act → World → Prop} (h : Cj P N B c2 Q L its ps) (hK : ∀ a w, c2.wp P Q a w → K a w) : Ej N B K L its ps := .mk <| fun a w hf hw => hK a w (h a w hf hw)
theorem Ej.sub {K : Act → World → Prop} (L' : Sl) (ps' : List (World → Prop)) (hL : Sub L' L) (hp : ∀ p ∈ ps', p ∈ ps) (h : Ej N B K L' its ps') : Ej N B K L its ps := .mk <| fun a w hf hw => h a w (hf.sub hL) (hw.sub hp)
theorem Ej.cut {K : Act → World → Prop} {ι : Type} (I : ι → Prop) (Lf : ι → Sl) (If : ι → List Item) (Pf : ι → List (World → Prop)) (hK : ∀ a w, (∃ i, I i ∧ Fr N a (Lf i) ∧ WS B w (If i) (Pf i)) → K a w) (i : ι) (hi : I i) (hL : Sub (Lf i) L) (hI : its = If i) (hp : ∀ p ∈ Pf i, p ∈ ps) : Ej N B K L its ps :=
  .mk <| fun a w hf hw => hK a w ⟨i, hi, hf.sub hL, by subst hI; exact hw.sub hp⟩
/-- What lies in memory, told otherwise. -/
theorem Cj.ws {ι : Type} (I : ι → Prop) (If : ι → List Item) (Pf : ι → List (World → Prop)) (h1 : ∀ w, WS B w its ps → ∃ i, I i ∧ WS B w (If i) (Pf i)) (h : ∀ i, I i → Cj P N B c Q L (If i) (Pf i)) : Cj P N B c Q L its ps := by
  refine ⟨?_⟩
  intro a w hf hw
  obtain ⟨i, hi, hw'⟩ := h1 w hw
  exact h i hi a w hf hw'
theorem Jl.ws {ι : Type} (I : ι → Prop) (If : ι → List Item) (Pf : ι → List (World → Prop)) (h1 : ∀ w, WS B w its ps → ∃ i, I i ∧ WS B w (If i) (Pf i)) (h : ∀ i, I i → Jl P N B D k ops Q rest L (If i) (Pf i)) : Jl P N B D k ops Q rest L its ps := by
  refine ⟨?_⟩
  intro a w hf hw
  obtain ⟨i, hi, hw'⟩ := h1 w hw
  exact h i hi a w hf hw'
theorem Ej.ws {K : Act → World → Prop} {ι : Type} (I : ι → Prop) (If : ι → List Item) (Pf : ι → List (World → Prop)) (h1 : ∀ w, WS B w its ps → ∃ i, I i ∧ WS B w (If i) (Pf i)) (h : ∀ i, I i → Ej N B K L (If i) (Pf i)) : Ej N B K L its ps := by
  refine ⟨?_⟩
  intro a w hf hw
  obtain ⟨i, hi, hw'⟩ := h1 w hw
  exact h i hi a w hf hw'
/-- Some items (the youngest) are forgotten. -/
inductive DropTo : List Item → List Item → Prop
  | refl {r} : DropTo r r
  | tail {i r r'} : DropTo r r' → DropTo (i :: r) r'
theorem WS.dropTo {w : World} : ∀ {its its' : List Item}, DropTo its its' → WS B w its ps → WS B w its' ps
  | _, _, .refl, h => h
  | _, _, .tail d, h => WS.dropTo d (h.drop (n := 0) rfl)
theorem Ej.back {K : Act → World → Prop} (hK : ∀ a w, (Fr N a L' ∧ WS B w its' ps) → K a w) (hI : DropTo its its') (hL : Sub L' L) : Ej N B K L its ps := .mk <| fun a w hf hw => hK a w ⟨hf.sub hL, hw.dropTo hI⟩
theorem least {p : Nat → Prop} (h : ∃ n, p n) : ∃ n, p n ∧ ∀ m, p m → n ≤ m := by
  obtain ⟨n, hn⟩ := h
  induction n using Nat.strongRecOn with
  | _ n ih =>
    by_cases hex : ∃ m, m < n ∧ p m
    · obtain ⟨m, hlt, hm⟩ := hex
      exact ih m hlt hm
    · exact ⟨n, hn, fun m hm => Nat.le_of_not_lt fun hlt => hex ⟨m, hlt, hm⟩⟩
open Classical in
theorem Cj.loop {ι : Type} (I : ι → Prop) (Lf : ι → Sl) (If : ι → List Item) (Pf : ι → List (World → Prop)) (μ : ι → Nat) (hc : c = .loop c1) (i0 : ι) (h0 : I i0) (hL : Sub (Lf i0) L) (hI : its = If i0) (hp : ∀ p ∈ Pf i0, p ∈ ps)
    (h : ∀ i, I i → Cj P N B c1 (Exit.then (fun a w => ∃ j, (I j ∧ μ j < μ i) ∧ Fr N a (Lf j) ∧ WS B w (If j) (Pf j)) Q) (Lf i) (If i) (Pf i)) : Cj P N B c Q L its ps := by
  subst hc; subst hI
  refine ⟨?_⟩
  intro a w hf hw
  let J : Act → World → Nat → Prop := fun a w n => ∃ i, I i ∧ μ i = n ∧ Fr N a (Lf i) ∧ WS B w (If i) (Pf i)
  have hmin : ∀ a w, (∃ n, J a w n) → ∃ n, J a w n ∧ ∀ m, J a w m → n ≤ m := fun a w hn => least hn
  refine wp_loop (fun a w => ∃ n, J a w n) (fun a w => if h : ∃ n, J a w n then (hmin a w h).choose else 0) ⟨_, i0, h0, rfl, hf.sub hL, hw.sub hp⟩ (fun a w hJ => ?_)
  rw [dif_pos hJ]
  obtain ⟨i, hi, hμ, h1, h2⟩ := (hmin a w hJ).choose_spec.1
  refine Code.wp_mono (fun e a' w' q => ?_) (h i hi a w h1 h2)
  cases e with
  | normal =>
    obtain ⟨j, ⟨hj, hlt⟩, g1, g2⟩ := q
    have hJ' : ∃ n, J a' w' n := ⟨_, j, hj, rfl, g1, g2⟩
    refine ⟨hJ', ?_⟩
    rw [dif_pos hJ', ← hμ]
    exact Nat.lt_of_le_of_lt ((hmin a' w' hJ').choose_spec.2 _ ⟨j, hj, rfl, g1, g2⟩) hlt
  | exit _ => exact q
  | goto _ => exact q
  | ret => exact q
  | panic _ => exact q
  | outgrown => exact q
/-- The call's end: the one result in a slot. -/
theorem Ej.out1 {fn : Func} {R : Ending → World → Prop} {K : Act → World → Prop} (hK : ∀ a w, bodyPost P fn R .ret a w → K a w) (hr : fn.results = #[.tmp t]) (hv : lk L t = some v) (hR : ∀ w, WS B w its ps → R (.returned v) w) : Ej N B K L its ps := by
  refine ⟨?_⟩
  intro a w hf hw
  have := hf.at_ t v hv
  refine hK a w ⟨hf.defers, v, ?_, hR w hw⟩
  simp [results, hr, this]
theorem Ej.out2 {fn : Func} {R : Ending → World → Prop} {K : Act → World → Prop} (hK : ∀ a w, bodyPost P fn R .ret a w → K a w) {s : Nat} (hr : fn.results = #[.tmp t, .tmp s]) (hv : lk L t = some v) (hu : lk L s = some v2) (hR : ∀ w, WS B w its ps → R (.returned (.tuple #[v, v2])) w) : Ej N B K L its ps := by
  refine ⟨?_⟩
  intro a w hf hw
  have h1 := hf.at_ t v hv
  have h2 := hf.at_ s v2 hu
  refine hK a w ⟨hf.defers, _, ?_, hR w hw⟩
  simp [results, hr, h1, h2]
/-- A call begins: the arguments in the first slots. -/
def slots0 : Nat → List Value → Sl
  | _, [] => []
  | n, v :: r => (n, v) :: slots0 (n + 1) r
theorem slots0_lk : ∀ (args : List Value) (n : Nat) (t : Nat) (v : Value), lk (slots0 n args) t = some v → ∃ j, t = n + j ∧ args[j]? = some v
  | [], _, _, _, h => by simp [slots0, lk] at h
  | u :: r, n, t, v, h => by
    unfold slots0 lk at h
    by_cases e : n = t
    · subst e
      rw [show Nat.beq n n = true by simp] at h
      exact ⟨0, rfl, by simpa using h⟩
    · rw [beq_no e] at h
      obtain ⟨j, h1, h2⟩ := slots0_lk r (n + 1) t v h
      exact ⟨j + 1, by omega, by simpa using h2⟩
theorem enter {f : FuncId} {fn : Func} {args : List Value} {w : World} {R : Ending → World → Prop} (hf : P.funcs[f]? = some fn) (hb : fn.body = some c) (hN : fn.ntmps = N)
    (h : Cj P N (base w) c (bodyPost P fn R) (slots0 0 args) [] []) : Calls P f args.toArray w R := by
  refine calls_of_wp hf hb (h _ _ ⟨?_, rfl, fun t v hv => ?_⟩ (WS.start w))
  · simp only [Array.size_append, Array.size_replicate, List.size_toArray]; omega
  · obtain ⟨j, h1, h2⟩ := slots0_lk args 0 t v hv
    have hj : j < args.length := by
      rcases Nat.lt_or_ge j args.length with h' | h'
      · exact h'
      · rw [List.getElem?_eq_none h'] at h2; cases h2
    rw [show t = j by omega, Array.getElem?_append_left (by simpa using hj)]
    simpa using h2
theorem enterS {f : FuncId} {fn : Func} {args : List Value} {w : World} {S : Nat → Prop} {R : Ending → World → Prop} (its : List Item) (ps : List (World → Prop)) (hO : Own its w S) (hp : ∀ p ∈ ps, Sta S w p) (hf : P.funcs[f]? = some fn) (hb : fn.body = some c) (hN : fn.ntmps = N)
    (h : Cj P N ⟨w, S⟩ c (bodyPost P fn R) (slots0 0 args) its ps) : Calls P f args.toArray w R := by
  refine calls_of_wp hf hb (h _ _ ⟨?_, rfl, fun t v hv => ?_⟩ (WS.startW hO hp))
  · simp only [Array.size_append, Array.size_replicate, List.size_toArray]; omega
  · obtain ⟨j, h1, h2⟩ := slots0_lk args 0 t v hv
    have hj : j < args.length := by
      rcases Nat.lt_or_ge j args.length with h' | h'
      · exact h'
      · rw [List.getElem?_eq_none h'] at h2; cases h2
    rw [show t = j by omega, Array.getElem?_append_left (by simpa using hj)]
    simpa using h2
theorem enterW {f : FuncId} {fn : Func} {args : List Value} {w : World} {R : Ending → World → Prop} (ps : List (World → Prop)) (hp : ∀ p ∈ ps, ∀ W, Below w.heap.size w W → p W) (hf : P.funcs[f]? = some fn) (hb : fn.body = some c) (hN : fn.ntmps = N)
    (h : Cj P N (base w) c (bodyPost P fn R) (slots0 0 args) [] ps) : Calls P f args.toArray w R :=
  enterS [] ps (fun k h => h) (fun p hp' W hm => hp p hp' W (hm.all (fun _ _ h => h))) hf hb hN h

/-! #### operations -/
theorem Jl.e {ι : Type} (val : ι → Value) (its' : ι → List Item) (ps' : ι → List (World → Prop)) (hw : wants ops L o = some true) (hd : o.dst = some d) (hN : Nat.blt d N = true)
    (h1 : ∀ a w, Fr N a L → WS B w its ps → ∃ i w', (execOp a.eval o).run P w = .ok (.value (val i)) w' ∧ (D.needs k = true → Below w.heap.size w w') ∧ WS B w' (its' i) (ps' i))
    (h : ∀ i, Jl P N B D (k + 1) ops Q rest ((d, val i) :: L) (its' i) (ps' i)) (hD : D.takes k = false := by rfl) : Jl P N B D k ops Q (o :: rest) L its ps := by
  refine ⟨?_⟩
  intro a w hf hW
  obtain ⟨i, w', hr, hb, hW'⟩ := h1 a w hf hW
  unfold runG
  rw [if_neg (by rw [hD]; simp), if_pos (hf.wants hw)]
  unfold Oper.wp
  rw [hr, Oper.upon_value, hd]
  exact ⟨hb, h i _ _ (hf.put hN _) hW'⟩
theorem Jl.un (its' : List Item) (hw : wants ops L o = some true) (hd : o.dst = none)
    (h1 : ∀ a w, Fr N a L → WS B w its ps → ∃ w', (execOp a.eval o).run P w = .ok .skip w' ∧ WS B w' its' ps)
    (h : Jl P N B D (k + 1) ops Q rest L its' ps) (hD : D.takes k = false := by rfl) (hE : D.needs k = false := by rfl) : Jl P N B D k ops Q (o :: rest) L its ps := by
  refine ⟨?_⟩
  intro a w hf hW
  obtain ⟨w', hr, hW'⟩ := h1 a w hf hW
  unfold runG
  rw [if_neg (by rw [hD]; simp), if_pos (hf.wants hw)]
  unfold Oper.wp
  rw [hr, Oper.upon_skip, hd]
  exact ⟨fun h' => (by rw [hE] at h'; cases h'), h _ _ (hf.put_none _) hW'⟩
/-- What yields and touches nothing. -/
theorem Jl.yd (hy : Yd P N B o v L its ps) (hw : wants ops L o = some true) (hd : o.dst = some d) (hN : Nat.blt d N = true) (h : Jl P N B D (k + 1) ops Q rest ((d, v) :: L) its ps) : Jl P N B D k ops Q (o :: rest) L its ps := by
  refine ⟨?_⟩
  intro a w hf hW
  unfold runG
  by_cases ht : D.takes k = true
  · rw [if_pos ht]
    refine ⟨v, .inl ⟨hf.wants hw, fun W hb => hy a W hf (hW.call hb)⟩, ?_⟩
    rw [hd]
    exact h _ _ (hf.put hN _) hW
  · rw [if_neg ht, if_pos (hf.wants hw)]
    unfold Oper.wp
    rw [hy a w hf hW, Oper.upon_value, hd]
    exact ⟨fun _ => Below.refl _ _, h _ _ (hf.put hN _) hW⟩
/-- Not carried out. -/
theorem Jl.off (hw : wants ops L o = some false) (hd : o.dst = some d) (hN : Nat.blt d N = true) (h : Jl P N B D (k + 1) ops Q rest ((d, undef) :: L) its ps) : Jl P N B D k ops Q (o :: rest) L its ps := by
  refine ⟨?_⟩
  intro a w hf hW
  unfold runG
  by_cases ht : D.takes k = true
  · rw [if_pos ht]
    refine ⟨undef, .inr ⟨hf.wants hw, rfl⟩, ?_⟩
    rw [hd]
    exact h _ _ (hf.put hN _) hW
  · rw [if_neg ht, if_neg (by rw [hf.wants hw]; simp), hd]
    exact h _ _ (hf.put hN _) hW
/-- A Bool in a slot: both cases. -/
theorem Jl.split (t : Nat) (hb : lk L t = some (.bool b)) (ht : b = true → Jl P N B D k ops Q rest ((t, .bool true) :: L) its ps) (hf : b = false → Jl P N B D k ops Q rest ((t, .bool false) :: L) its ps) : Jl P N B D k ops Q rest L its ps := by
  refine ⟨?_⟩
  intro a w hF hW
  cases hb' : b with
  | true => exact ht hb' a w ⟨hF.size, hF.defers, fun s u hs => by
      unfold lk at hs
      by_cases e : t = s
      · subst e
        rw [show Nat.beq t t = true by simp] at hs
        rw [hF.at_ t _ hb, hb']; simpa using hs
      · rw [beq_no e] at hs; exact hF.at_ s u hs⟩ hW
  | false => exact hf hb' a w ⟨hF.size, hF.defers, fun s u hs => by
      unfold lk at hs
      by_cases e : t = s
      · subst e
        rw [show Nat.beq t t = true by simp] at hs
        rw [hF.at_ t _ hb, hb']; simpa using hs
      · rw [beq_no e] at hs; exact hF.at_ s u hs⟩ hW
def gslot (ops : Array Oper) (o : Oper) : Option Nat := match o.guard with
  | none => none
  | some (j, _) => (ops[j]?).bind (·.dst)
/-- The guard of what comes next: both cases. -/
theorem Jl.splitG (hg : gslot ops o = some t) (hb : lk L t = some (.bool b)) (ht : b = true → Jl P N B D k ops Q (o :: rest) ((t, .bool true) :: L) its ps) (hf : b = false → Jl P N B D k ops Q (o :: rest) ((t, .bool false) :: L) its ps) : Jl P N B D k ops Q (o :: rest) L its ps := Jl.split t hb ht hf
/-- What stands in a slot, said otherwise. -/
theorem Jl.as (t : Nat) (v : Value) (hb : lk L t = some v2) (e : v2 = v) (h : Jl P N B D k ops Q rest ((t, v) :: L) its ps) : Jl P N B D k ops Q rest L its ps := by
  subst e
  refine ⟨?_⟩
  intro a w hF hW
  exact h a w ⟨hF.size, hF.defers, fun s x hs => by
      unfold lk at hs
      by_cases e : t = s
      · subst e
        rw [show Nat.beq t t = true by simp] at hs
        rw [hF.at_ t _ hb]; simpa using hs
      · rw [beq_no e] at hs; exact hF.at_ s x hs⟩ hW
def arOp : BinOp → Int → Int → Option Int
  | .add, p, q => some (p + q)
  | .sub, p, q => some (p - q)
  | .mul, p, q => some (p * q)
  | _, _, _ => none
def rlOp : BinOp → Int → Int → Option Prop
  | .eql, p, q => some (p = q)
  | .neq, p, q => some (p ≠ q)
  | .lss, p, q => some (p < q)
  | .leq, p, q => some (p ≤ q)
  | .gtr, p, q => some (p > q)
  | .geq, p, q => some (p ≥ q)
  | _, _, _ => none
def dcOp : BinOp → Int → Int → Option Bool
  | .eql, p, q => some (decide (p = q))
  | .neq, p, q => some (decide (p ≠ q))
  | .lss, p, q => some (decide (p < q))
  | .leq, p, q => some (decide (p ≤ q))
  | .gtr, p, q => some (decide (p > q))
  | .geq, p, q => some (decide (p ≥ q))
  | _, _, _ => none
def bbOp : BinOp → Bool → Bool → Option Bool
  | .eql, p, q => some (p == q)
  | .neq, p, q => some (p != q)
  | _, _, _ => none
namespace Y
variable {x y z : Operand}
theorem mv (hop : o.op = .move x) (hx : ev L x = some v) : Yd P N B o v L its ps := .mk <| fun a w hf _ => by
  unfold execOp; rw [hop]; simp [hf.ev hx]
theorem asg (hop : o.op = .assign x) (hx : ev L x = some v) : Yd P N B o v L its ps := .mk <| fun a w hf _ => by
  unfold execOp; rw [hop]; simp [hf.ev hx]
theorem pickT (hop : o.op = .pick x y z) (hx : ev L x = some (.bool true)) (hy : ev L y = some v) : Yd P N B o v L its ps := .mk <| fun a w hf _ => by
  unfold execOp; rw [hop]; simp [hf.ev hx, hf.ev hy, asBool]
theorem pickF (hop : o.op = .pick x y z) (hx : ev L x = some (.bool false)) (hz : ev L z = some v) : Yd P N B o v L its ps := .mk <| fun a w hf _ => by
  unfold execOp; rw [hop]; simp [hf.ev hx, hf.ev hz, asBool]
theorem ext {us : List Value} {i : Nat} (hop : o.op = .extract x i) (hx : ev L x = some (.tuple us.toArray)) (hv : us[i]? = some v) : Yd P N B o v L its ps := .mk <| fun a w hf _ => by
  unfold execOp; rw [hop]; simp [hf.ev hx, Instr.extract, hv]
/-- A binary operation on two numbers, or Bools, or texts: what it yields is told by its own run. -/
theorem bin {op : BinOp} {tx ty : TypeId} {p q : Value} (hop : o.op = .binOp op tx x y ty) (hx : ev L x = some p) (hy : ev L y = some q) (hr : ∀ w, (do eqGuard op tx x y p q; binOp op tx p q : Sem Value).run P w = .ok v w) : Yd P N B o v L its ps := .mk <| fun a w hf _ => by
  unfold execOp; rw [hop]; simp only [hf.ev hx, hf.ev hy]
  rw [Sem.run_bind, hr w]; rfl
theorem un {op : UnOp} {tx : TypeId} {p : Value} (hop : o.op = .unOp op tx x) (hx : ev L x = some p) (hr : ∀ w, (Op.unary op p).run P w = .ok v w) : Yd P N B o v L its ps := .mk <| fun a w hf _ => by
  unfold execOp; rw [hop]; simp only [hf.ev hx]
  rw [Sem.run_bind, hr w]; rfl
theorem cmp {op : BinOp} {tx ty : TypeId} {k : IntKind} {p q : Int} (hop : o.op = .binOp op tx x y ty) (hx : ev L x = some (.int k p)) (hy : ev L y = some (.int k q)) (hr : dcOp op p q = some b) : Yd P N B o (.bool b) L its ps := by
  refine bin hop hx hy (fun w => ?_)
  have e1 : (p == q) = decide (p = q) := by simp [BEq.beq]
  have e2 : (p != q) = decide (p ≠ q) := by simp [bne, e1]
  cases op <;> simp only [arOp, rlOp, dcOp, bbOp, Option.some.injEq, reduceCtorEq] at hr <;> subst hr <;> simp [eqGuard, binOp, Op.intCmp, e1, e2]
theorem cmpF {op : BinOp} {tx ty : TypeId} {k : IntKind} {p q : Int} {φ : Prop} (hop : o.op = .binOp op tx x y ty) (hx : ev L x = some (.int k p)) (hy : ev L y = some (.int k q)) (hr : rlOp op p q = some φ) (hn : ¬ φ) : Yd P N B o (.bool false) L its ps := by
  refine cmp (P := P) (N := N) (B := B) (its := its) (ps := ps) hop hx hy ?_
  cases op <;> simp only [arOp, rlOp, dcOp, bbOp, Option.some.injEq, reduceCtorEq] at hr ⊢ <;> subst hr <;> exact decide_eq_false hn
theorem cmpT {op : BinOp} {tx ty : TypeId} {k : IntKind} {p q : Int} {φ : Prop} (hop : o.op = .binOp op tx x y ty) (hx : ev L x = some (.int k p)) (hy : ev L y = some (.int k q)) (hr : rlOp op p q = some φ) (hn : φ) : Yd P N B o (.bool true) L its ps := by
  refine cmp (P := P) (N := N) (B := B) (its := its) (ps := ps) hop hx hy ?_
  cases op <;> simp only [arOp, rlOp, dcOp, bbOp, Option.some.injEq, reduceCtorEq] at hr ⊢ <;> subst hr <;> exact decide_eq_true hn
theorem cmpB {op : BinOp} {tx ty : TypeId} {p q : Bool} (ht : P.underlying tx = some .bool) (hop : o.op = .binOp op tx x y ty) (hx : ev L x = some (.bool p)) (hy : ev L y = some (.bool q)) (hr : bbOp op p q = some b) : Yd P N B o (.bool b) L its ps := by
  refine bin hop hx hy (fun w => ?_)
  have h1 := run_eql_bool (P := P) (w := w) tx p q ht
  have h2 := run_neq_bool (P := P) (w := w) tx p q ht
  cases op <;> simp only [arOp, rlOp, dcOp, bbOp, Option.some.injEq, reduceCtorEq] at hr <;> subst hr
  · rw [Sem.run_bind]; simp [eqGuard, h1]
  · rw [Sem.run_bind]; simp [eqGuard, h2]; cases p <;> cases q <;> rfl
theorem arith {op : BinOp} {tx ty : TypeId} {k : IntKind} {p q r : Int} (hop : o.op = .binOp op tx x y ty) (hx : ev L x = some (.int k p)) (hy : ev L y = some (.int k q)) (hr : arOp op p q = some r) : Yd P N B o (.int k (k.wrap r)) L its ps := by
  refine bin hop hx hy (fun w => ?_)
  cases op <;> simp only [arOp, rlOp, dcOp, bbOp, Option.some.injEq, reduceCtorEq] at hr <;> subst hr <;> simp [eqGuard, binOp, Op.intArith]
theorem neqB {tx ty : TypeId} {p : Bool} (hop : o.op = .binOp .neq tx x y ty) (hx : ev L x = some (.bool p)) (hy : ev L y = some (.bool p)) (ht : P.underlying tx = some .bool) : Yd P N B o (.bool false) L its ps :=
  cmpB ht hop hx hy (by simp [bbOp])
theorem arith64 {op : BinOp} {tx ty : TypeId} {p q r : Int} (hop : o.op = .binOp op tx x y ty) (hx : ev L x = some (.int .i64 p)) (hy : ev L y = some (.int .i64 q)) (hr : arOp op p q = some r) : Yd P N B o (.int .i64 (wrap64 r)) L its ps := by
  have := arith (P := P) (N := N) (B := B) (its := its) (ps := ps) hop hx hy hr
  rw [IntKind.wrap_i64] at this
  unfold wrap64
  exact this
/-- 64 bits, within bounds. -/
theorem arithN {op : BinOp} {tx ty : TypeId} {p q r : Int} (hop : o.op = .binOp op tx x y ty) (hx : ev L x = some (.int .i64 p)) (hy : ev L y = some (.int .i64 q)) (hr : arOp op p q = some r) (hb : -9223372036854775808 ≤ r ∧ r ≤ 9223372036854775807) : Yd P N B o (.int .i64 r) L its ps := by
  have := arith (P := P) (N := N) (B := B) (its := its) (ps := ps) hop hx hy hr
  rw [IntKind.wrap_i64] at this
  have e : (r + 9223372036854775808) % 18446744073709551616 - 9223372036854775808 = r := by omega
  rwa [e] at this
theorem not (hop : o.op = .unOp .not T x) (hx : ev L x = some (.bool b)) : Yd P N B o (.bool (!b)) L its ps := un hop hx (fun w => by simp [Op.unary])
theorem lenS {ts : Array TypeId} {A : Option Addr} {m c e : Nat} (ht : P.underlying T = some (.slice e)) (hop : o.op = .call { callee := .builtin .len, args := #[x], argTypes := ts }) (hts : ts[0]? = some T) (hx : ev L x = some (.slice A m c)) : Yd P N B o (.int .i64 m) L its ps := .mk <| fun a w hf _ => by
  unfold execOp; rw [hop]
  simp [resolve, invoke, builtin, Builtin.len_, hts, hf.ev hx, run_underlying ht, goInt]
end Y
end
end Go.Proofs.YtblihmohgfmpgaaW.SL

namespace Go.Proofs.YtblihmohgfmpgaaW.SL
open Go Go.RowKit Go.Proofs.YtblihmohgfmpgaaW.PrintWords
set_option linter.unusedSimpArgs false
set_option linter.unusedVariables false

/-! #### what is asked of types -/
def aggT (P : Program) (T : TypeId) : Option Nat := match P.underlying T with
  | some (.struct _) => (P.info? T).map (·.size)
  | some (.array _ _) => (P.info? T).map (·.size)
  | _ => none
def scT (P : Program) (T : TypeId) : Bool := match P.underlying T with
  | some (.struct _) => false
  | some (.array _ _) => false
  | some _ => decide ((P.info? T).map (·.size) = some 1)
  | none => false
def zeroT (P : Program) (T : TypeId) : Option (List Value) := ((P.info? T).bind (·.zero)).map (·.cells.toList)
def fldT (P : Program) (S : TypeId) (f : Nat) : Option Nat := match P.underlying S with
  | some (.struct fs) => (fs[f]?).bind fun fl => (P.info? fl.type).bind fun i => if i.size = 0 then none else some fl.offset
  | _ => none
def elT (P : Program) (T : TypeId) : Option (TypeId × Nat) := match P.underlying T with
  | some (.slice e) => (P.info? e).map fun i => (e, i.size)
  | _ => none
/-! Facts on types and functions, in structures (two of them that do not fit are told apart at once). -/
structure AggT (P : Program) (T m : Nat) : Prop where mk :: (out : aggT P T = some m)
structure ScT (P : Program) (T : Nat) : Prop where mk :: (out : scT P T = true)
structure ZeroT (P : Program) (T : Nat) (zs : List Value) : Prop where mk :: (out : zeroT P T = some zs)
structure SzT (P : Program) (T m : Nat) : Prop where mk :: (out : (P.info? T).map (·.size) = some m)
structure FldT (P : Program) (S f off : Nat) : Prop where mk :: (out : fldT P S f = some off)
structure ElT (P : Program) (T e m : Nat) : Prop where mk :: (out : elT P T = some (e, m))
structure Ent (P : Program) (f : Nat) : Prop where mk :: (out : ∀ args w, (callFunc f args).run P w = .ok (.enter f args) w)
def allOne : List Value → Bool
  | [] => true
  | v :: r => v.oneCell' && allOne r
theorem allOne_mem : ∀ {us : List Value}, allOne us = true → ∀ u ∈ us, u.oneCell' = true
  | [], _, u, hu => by cases hu
  | v :: r, h, u, hu => by
    unfold allOne at h
    rw [Bool.and_eq_true] at h
    rcases List.mem_cons.1 hu with rfl | hu
    · exact h.1
    · exact allOne_mem h.2 u hu
/-- Item i of its is i' in its'. -/
inductive SetAt (i i' : Item) : List Item → List Item → Prop
  | z {r} : SetAt i i' (i :: r) (i' :: r)
  | s {j r r'} : SetAt i i' r r' → SetAt i i' (j :: r) (j :: r')
theorem SetAt.at {i i' : Item} : ∀ {its its' : List Item}, SetAt i i' its its' → ∃ n, its[n]? = some i ∧ its' = its.set n i'
  | _, _, .z => ⟨0, rfl, rfl⟩
  | _, _, .s h => by
    obtain ⟨n, h1, h2⟩ := SetAt.at h
    exact ⟨n + 1, by simpa using h1, by simp [h2]⟩
/-- Item i taken out of its. -/
inductive OutAt (i : Item) : List Item → List Item → Prop
  | z {r} : OutAt i (i :: r) r
  | s {j r r'} : OutAt i r r' → OutAt i (j :: r) (j :: r')
theorem OutAt.at {i : Item} : ∀ {its its' : List Item}, OutAt i its its' → ∃ n, its[n]? = some i ∧ its' = its.eraseIdx n
  | _, _, .z => ⟨0, rfl, rfl⟩
  | _, _, .s h => by
    obtain ⟨n, h1, h2⟩ := OutAt.at h
    exact ⟨n + 1, by simpa using h1, by simp [h2]⟩
/-- Cell n of cs is v in cs'. -/
inductive PutAt (v : Value) : Nat → List Value → List Value → Prop
  | z {u r} : PutAt v 0 (u :: r) (v :: r)
  | s {n u r r'} : PutAt v n r r' → PutAt v (n + 1) (u :: r) (u :: r')
theorem PutAt.wr {v : Value} : ∀ {n : Nat} {cs cs' : List Value}, PutAt v n cs cs' → n + 1 ≤ cs.length ∧ cs' = cs.take n ++ ([v] ++ cs.drop (n + 1))
  | _, _, _, .z => ⟨by simp, by simp⟩
  | _, _, _, .s h => by
    obtain ⟨h1, h2⟩ := PutAt.wr h
    exact ⟨by simp; omega, by simp [h2]⟩
/-- Cells written from off on. -/
def wr (cs : List Value) (off : Nat) (us : List Value) : List Value := cs.take off ++ (us ++ cs.drop (off + us.length))

section
variable {P : Program} {w : World}
theorem run_zeroT {T : TypeId} {zs : List Value} (h : zeroT P T = some zs) : ∃ z, (zeroValue T).run P w = .ok z w ∧ z.cells.toList = zs := by
  unfold zeroT at h
  cases hi : P.info? T with
  | none => simp [hi] at h
  | some i =>
    cases hz : i.zero with
    | none => simp [hi, hz] at h
    | some z =>
      simp only [hi, Option.bind_some, hz, Option.map_some, Option.some.injEq] at h
      exact ⟨z, by simp [zeroValue, typeInfo, hi, hz], h⟩
theorem aggT_run {T : TypeId} {m : Nat} (h : aggT P T = some m) : (isAgg T).run P w = .ok true w ∧ (sizeOf T).run P w = .ok m w := by
  unfold aggT at h
  cases hu : P.underlying T with
  | none => simp [hu] at h
  | some d =>
    have hs : (P.info? T).map (·.size) = some m ∧ ((match d with | .struct _ | .array _ _ => true | _ => false) = true) := by
      cases d <;> simp_all
    obtain ⟨i, hi, rfl⟩ := Option.map_eq_some_iff.1 hs.1
    refine ⟨?_, by simp [sizeOf, typeInfo, hi]⟩
    unfold isAgg
    rw [Sem.run_bind, run_underlying hu w]
    have := hs.2
    cases d <;> simp_all
theorem scT_run {T : TypeId} (h : scT P T = true) : (isAgg T).run P w = .ok false w ∧ (sizeOf T).run P w = .ok 1 w := by
  unfold scT at h
  cases hu : P.underlying T with
  | none => simp [hu] at h
  | some d =>
    have hs : (P.info? T).map (·.size) = some 1 ∧ ((match d with | .struct _ | .array _ _ => true | _ => false) = false) := by
      cases d <;> simp_all
    obtain ⟨i, hi, hi1⟩ := Option.map_eq_some_iff.1 hs.1
    refine ⟨?_, by simp [sizeOf, typeInfo, hi, hi1]⟩
    unfold isAgg
    rw [Sem.run_bind, run_underlying hu w]
    have := hs.2
    cases d <;> simp_all
theorem run_load_agg {T : TypeId} {ad : Addr} {us : List Value} (h : aggT P T = some us.length) (hc : Cells w ad us) : (Instr.loadAt T (.pointer (some ad))).run P w = .ok (.agg us.toArray) w := by
  obtain ⟨h1, h2⟩ := aggT_run (w := w) h
  have hl : (loadCells ad us.length).run P w = .ok us.toArray w := run_loadCells_list (P := P) w ad us hc
  simp [Instr.loadAt, Instr.sureAddr, loadVar, h1, h2, hl]
theorem run_load_one {T : TypeId} {ad : Addr} {u : Value} (h : scT P T = true) (hc : w.cell? ad = some u) : (Instr.loadAt T (.pointer (some ad))).run P w = .ok u w := by
  obtain ⟨h1, h2⟩ := scT_run (w := w) h
  simp [Instr.loadAt, Instr.sureAddr, loadVar, h1, load, Sem.run, hc]
theorem run_fieldAt {S f off : Nat} {ad : Addr} (h : fldT P S f = some off) : (Instr.fieldAt S (.pointer (some ad)) f).run P w = .ok (.pointer (some (ad.add off))) w := by
  unfold fldT at h
  cases hu : P.underlying S with
  | none => simp [hu] at h
  | some d =>
    cases d <;> simp only [hu, reduceCtorEq] at h
    rename_i fs
    obtain ⟨fl, hf, h⟩ := Option.bind_eq_some_iff.1 h
    obtain ⟨i, hi, h⟩ := Option.bind_eq_some_iff.1 h
    have h0 : i.size ≠ 0 := fun e => by simp [e] at h
    rw [if_neg h0] at h
    obtain rfl := Option.some.inj h
    simp [Instr.fieldAt, run_underlying hu, hf, Instr.sureAddr, fieldPlace, sizeOf, typeInfo, hi, h0]
theorem run_indexAt {T e size len c : Nat} {ad : Addr} {k : IntKind} {i : Int} (h : elT P T = some (e, size)) (h0 : 0 ≤ i) (h1 : i < (len : Int)) : (Instr.indexAt T (.slice (some ad) len c) (.int k i)).run P w = .ok (.pointer (some (ad.add (i.toNat * size)))) w := by
  unfold elT at h
  cases hu : P.underlying T with
  | none => simp [hu] at h
  | some d =>
    cases d <;> simp [hu] at h
    rename_i e'
    obtain ⟨j, hj, rfl, rfl⟩ := h
    simp [Instr.indexAt, run_underlying hu, asIntOf, h0, h1, sizeOf, typeInfo, hj]
theorem storeCells_run {g T : Nat} : ∀ (us : List Value) (i : Nat) (ad : Addr) (cs : List Value) (w : World), ad.block = g → ad.spot = none → w.heap[g]? = some (.cells cs.toArray T (0, 0)) → ad.off + i + us.length ≤ cs.length → (∀ u ∈ us, u.oneCell' = true) →
    ∃ w', (storeCells ad us i).run P w = .ok () w' ∧ w'.heap[g]? = some (.cells (wr cs (ad.off + i) us).toArray T (0, 0)) ∧ w'.os = w.os ∧ w'.tape = w.tape ∧ w'.output = w.output ∧ w'.heap.size = w.heap.size ∧ ∀ k, k ≠ g → w'.heap[k]? = w.heap[k]?
  | [], i, ad, cs, w, hb, hs, hg, hl, h1 => ⟨w, by simp [storeCells], by simpa [wr] using hg, rfl, rfl, rfl, rfl, fun _ _ => rfl⟩
  | u :: r, i, ad, cs, w, hb, hs, hg, hl, h1 => by
    have hlt : ad.off + i < cs.length := by simp at hl; omega
    have hadd : ad.add i = ⟨g, ad.off + i, none⟩ := by
      unfold Addr.add
      split
      · rename_i h0; subst h0; cases ad; simp_all
      · cases ad; simp_all
    have hcell : w.cell? ⟨g, ad.off + i, none⟩ = some cs[ad.off + i] := by simp [World.cell?, hg, hlt]
    have hfro : w.frozen? ⟨g, ad.off + i, none⟩ = false := by simp [World.frozen?, hg]
    have hst : (store (ad.add i) u).run P w = .ok () (w.setCell ⟨g, ad.off + i, none⟩ u) := by
      rw [hadd, run_store P w _ u _ (h1 u (by simp)), hcell]
      simp [hfro]
    have hg' := blk_set hg (ad.off + i) u
    have hg'' : (w.setCell ⟨g, ad.off + i, none⟩ u).heap[g]? = some (.cells (cs.set (ad.off + i) u).toArray T (0, 0)) := by rw [hg']; simp
    obtain ⟨w', e1, e2, e3, e4, e5, e6, e7⟩ := storeCells_run r (i + 1) ad (cs.set (ad.off + i) u) _ hb hs hg'' (by simp at hl ⊢; omega) (fun x hx => h1 x (by simp [hx]))
    refine ⟨w', by simp only [storeCells, Sem.run_bind, hst, Result.andThen_ok, e1], ?_, e3, e4, e5, by rw [e6]; simp, fun k hk => (e7 k hk).trans (Below.heap_setCell w ⟨g, ad.off + i, none⟩ u k hk)⟩
    rw [e2]
    congr 3
    unfold wr
    rw [show ad.off + (i + 1) = (ad.off + i) + 1 by omega]
    generalize ad.off + i = m at hlt
    apply List.ext_getElem?
    intro k
    simp only [List.getElem?_append, List.length_take, List.length_set, List.length_cons, List.getElem?_drop, List.getElem?_take, List.getElem?_set]
    by_cases hk : k < m
    · simp [show min m cs.length = m by omega, show min (m + 1) cs.length = m + 1 by omega, hk, show k < m + 1 by omega, show ¬ m = k by omega]
    · by_cases hk2 : k = m
      · subst hk2
        simp [show min k cs.length = k by omega, show min (k + 1) cs.length = k + 1 by omega, hlt]
      · have h3 : ¬ k < m + 1 := by omega
        simp only [show min m cs.length = m by omega, show min (m + 1) cs.length = m + 1 by omega, if_neg hk, if_neg h3]
        rw [show k - m = (k - (m + 1)) + 1 by omega]
        simp only [List.getElem?_cons_succ]
        by_cases h4 : k - (m + 1) < r.length
        · simp [h4]
        · simp [h4, Nat.add_assoc, Nat.add_comm 1, show ¬ m = m + 1 + r.length + (k - (m + 1) - r.length) by omega, show m + (r.length + 1) + (k - (m + 1) + 1 - (r.length + 1)) = m + 1 + r.length + (k - (m + 1) - r.length) by omega]
end

section
variable {P : Program} {N : Nat} {B : Base} {L L' : Sl} {its its' : List Item} {ps ps' : List (World → Prop)} {Q : Exit → Act → World → Prop} {D : Dm} {k : Nat} {ops : Array Oper} {rest : List Oper} {o : Oper} {d T n m : Nat} {v v2 : Value} {b : Bool} {x y z : Operand} {cs zs us : List Value} {g off T' : Nat} {ad : Addr}
theorem Box_at {w : World} (h : WS B w its ps) (hn : Item.box g T' cs ∈ its) : w.heap[g]? = some (.cells cs.toArray T' (0, 0)) := by
  obtain ⟨_, S, h2, _, _⟩ := h
  obtain ⟨n, hn⟩ := List.mem_iff_getElem?.1 hn
  obtain ⟨A, g1, _⟩ := h2.focus hn
  exact g1.1
theorem Box_cells {w : World} (h : w.heap[g]? = some (.cells cs.toArray T' (0, 0))) (off : Nat) : Cells w ⟨g, off, none⟩ (cs.drop off) := by
  intro j u hu
  have : (⟨g, off, none⟩ : Addr).add j = ⟨g, off + j, none⟩ := by unfold Addr.add; split <;> simp_all
  rw [this, blk_cell h]
  simpa using hu
namespace Y
theorem loadA (hop : o.op = .load T x) (hx : ev L x = some (.pointer (some ⟨g, 0, none⟩))) (hT : AggT P T m) (hn : Item.box g T' cs ∈ its) (hl : Nat.beq cs.length m = true) : Yd P N B o (.agg cs.toArray) L its ps := .mk <| fun a w hf hW => by
  obtain rfl := Nat.eq_of_beq_eq_true hl
  have hc := Box_cells (Box_at hW hn) 0
  simp only [List.drop_zero] at hc
  unfold execOp; rw [hop]; simp [hf.ev hx, run_load_agg hT.out hc]
theorem load1 (hop : o.op = .load T x) (hx : ev L x = some (.pointer (some ⟨g, off, none⟩))) (hT : ScT P T) (hn : Item.box g T' cs ∈ its) (hv : cs[off]? = some v) : Yd P N B o v L its ps := .mk <| fun a w hf hW => by
  have hc := blk_cell (Box_at hW hn) off
  unfold execOp; rw [hop]; simp [hf.ev hx, run_load_one hT.out (hc.trans (by simpa using hv))]
/-- Out of cells that a fact tells. -/
theorem loadF (hop : o.op = .load T x) (hx : ev L x = some (.pointer (some ad))) (hT : AggT P T m) (hp : (fun w => Cells w ad us) ∈ ps) (hl : Nat.beq us.length m = true) : Yd P N B o (.agg us.toArray) L its ps := .mk <| fun a w hf hW => by
  obtain rfl := Nat.eq_of_beq_eq_true hl
  unfold execOp; rw [hop]; simp [hf.ev hx, run_load_agg hT.out (hW.fact hp)]
theorem fld {S f : Nat} (hop : o.op = .fieldAddr S x f) (hx : ev L x = some (.pointer (some ad))) (hT : FldT P S f off) : Yd P N B o (.pointer (some (ad.add off))) L its ps := .mk <| fun a w hf hW => by
  unfold execOp; rw [hop]; simp [hf.ev hx, run_fieldAt hT.out]
/-- The same in a block of the call's own. -/
theorem fldB {S f m : Nat} (hop : o.op = .fieldAddr S x f) (hx : ev L x = some (.pointer (some ⟨g, m, none⟩))) (hT : FldT P S f off) : Yd P N B o (.pointer (some ⟨g, m + off, none⟩)) L its ps := by
  have h := fld (P := P) (N := N) (B := B) (its := its) (ps := ps) hop hx hT
  have : (⟨g, m, none⟩ : Addr).add off = ⟨g, m + off, none⟩ := by unfold Addr.add; split <;> simp_all
  rwa [this] at h
theorem fld0 {S f : Nat} (hop : o.op = .fieldAddr S x f) (hx : ev L x = some (.pointer (some ⟨g, 0, none⟩))) (hT : FldT P S f off) : Yd P N B o (.pointer (some ⟨g, off, none⟩)) L its ps := by
  have h := fldB (P := P) (N := N) (B := B) (its := its) (ps := ps) hop hx hT
  rwa [Nat.zero_add] at h
theorem idx {e size len c : Nat} {k : IntKind} {i : Int} (hop : o.op = .indexAddr T x y) (hx : ev L x = some (.slice (some ad) len c)) (hy : ev L y = some (.int k i)) (hT : ElT P T e size) (h0 : 0 ≤ i) (h1 : i < (len : Int)) : Yd P N B o (.pointer (some (ad.add (i.toNat * size)))) L its ps := .mk <| fun a w hf hW => by
  unfold execOp; rw [hop]; simp [hf.ev hx, hf.ev hy, run_indexAt hT.out h0 h1]
end Y
theorem WS.alloc {w : World} (h : WS B w its ps) (T : Nat) (cs : Array Value) : WS B (w.alloc (.cells cs T)) (.box w.heap.size T cs.toList :: its) ps :=
  h.new (below_alloc (Below.refl _ _) _) (A := fun k => k = w.heap.size) ⟨by simpa using heap_alloc_new w (.cells cs T), fun k => Iff.rfl⟩ (fun k hk => by rw [hk]; exact Nat.le_refl _)
theorem Jl.alloc (hw : wants ops L o = some true) (hop : o.op = .alloc T) (hd : o.dst = some d) (hN : Nat.blt d N = true) (hz : ZeroT P T zs)
    (h : ∀ g, Jl P N B D (k + 1) ops Q rest ((d, .pointer (some ⟨g, 0, none⟩)) :: L) (Item.box g T zs :: its) ps) (hD : D.takes k = false := by rfl) : Jl P N B D k ops Q (o :: rest) L its ps :=
  Jl.e (fun g : Nat => .pointer (some ⟨g, 0, none⟩)) (fun g => Item.box g T zs :: its) (fun _ => ps) hw hd hN (fun a w hf hW => by
    obtain ⟨z, h1, h2⟩ := run_zeroT (w := w) hz.out
    refine ⟨w.heap.size, w.alloc (.cells z.cells T), ?_, fun _ => below_alloc (Below.refl _ _) _, ?_⟩
    · unfold execOp; rw [hop]; simp [Instr.alloc, h1, newVar, newRow]
    · have := hW.alloc T z.cells
      rwa [h2] at this) h hD
theorem Jl.box (hw : wants ops L o = some true) (hop : o.op = .box T x) (hd : o.dst = some d) (hN : Nat.blt d N = true) (hx : ev L x = some v) (hz : v.cells.toList = zs)
    (h : ∀ g, Jl P N B D (k + 1) ops Q rest ((d, .pointer (some ⟨g, 0, none⟩)) :: L) (Item.box g T zs :: its) ps) (hD : D.takes k = false := by rfl) : Jl P N B D k ops Q (o :: rest) L its ps :=
  Jl.e (fun g : Nat => .pointer (some ⟨g, 0, none⟩)) (fun g => Item.box g T zs :: its) (fun _ => ps) hw hd hN (fun a w hf hW => by
    refine ⟨w.heap.size, w.alloc (.cells v.cells T), ?_, fun _ => below_alloc (Below.refl _ _) _, ?_⟩
    · unfold execOp; rw [hop]; simp [Instr.box, newVar, newRow, hf.ev hx]
    · have := hW.alloc T v.cells
      rwa [hz] at this) h hD
theorem store_run {o : Oper} {a : Act} {w : World} (hop : o.op = .store T x y) (hx : a.eval x = .pointer (some ⟨g, off, none⟩)) (hy : a.eval y = v) (hu : v.cells.toList = us) (hT : (P.info? T).map (·.size) = some us.length) (hg : w.heap[g]? = some (.cells cs.toArray T' (0, 0))) (hl : off + us.length ≤ cs.length) (h1 : ∀ u ∈ us, u.oneCell' = true) :
    ∃ w', (execOp a.eval o).run P w = .ok .skip w' ∧ w'.heap[g]? = some (.cells (wr cs off us).toArray T' (0, 0)) ∧ Aft (fun k => k = g) w w' := by
  obtain ⟨w', e1, e2, e3, e4, e5, e6, e7⟩ := storeCells_run (P := P) us 0 ⟨g, off, none⟩ cs w rfl rfl hg (by simpa using hl) h1
  refine ⟨w', ?_, e2, e3, e4, e5, by omega, fun k _ hk => e7 k hk⟩
  unfold execOp; rw [hop]
  obtain ⟨i, hi, hi2⟩ := Option.map_eq_some_iff.1 hT
  have hsz : v.cells.size = us.length := by rw [← hu]; simp
  simp only [hx, hy]
  simp [Instr.storeAt, Instr.sureAddr, storeVar, sizeOf, typeInfo, hi, hi2, hsz, hu, e1]
/-- A whole record is stored into its block. -/
theorem Jl.storeA (hw : wants ops L o = some true) (hop : o.op = .store T x y) (hd : o.dst = none) (hx : ev L x = some (.pointer (some ⟨g, 0, none⟩))) (hy : ev L y = some (.agg us.toArray)) (hT : SzT P T us.length) (hn : SetAt (.box g T' cs) (.box g T' us) its its') (hl : Nat.beq us.length cs.length = true) (h1 : allOne us = true)
    (h : Jl P N B D (k + 1) ops Q rest L its' ps) (hD : D.takes k = false := by rfl) (hE : D.needs k = false := by rfl) : Jl P N B D k ops Q (o :: rest) L its ps :=
  Jl.un its' hw hd (fun a w hf hW => by
    obtain ⟨n, hn0, rfl⟩ := hn.at
    have hg := Box_at hW (List.mem_of_getElem? hn0)
    obtain ⟨w', e1, e2, e3⟩ := store_run (P := P) (us := us) hop (hf.ev hx) (hf.ev hy) (by simp [Value.cells]) hT.out hg (by have := Nat.eq_of_beq_eq_true hl; omega) (allOne_mem h1)
    have e : wr cs 0 us = us := by unfold wr; simp [Nat.eq_of_beq_eq_true hl]
    rw [e] at e2
    exact ⟨w', e1, hW.upd hn0 (fun A hA hA0 => ⟨A, ⟨e2, hA.2⟩, fun k hk _ => hk, e3.os, e3.tape, e3.output, e3.size, fun k hk hn' => e3.block k hk (fun e => hn' ((hA.2 k).2 e))⟩)⟩) h hD hE
/-- One cell is stored into a block of the call's own. -/
theorem Jl.store1 (hw : wants ops L o = some true) (hop : o.op = .store T x y) (hd : o.dst = none) (hx : ev L x = some (.pointer (some ⟨g, off, none⟩))) (hy : ev L y = some v) (hT : SzT P T 1) (h1 : v.oneCell' = true) {cs' : List Value} (hb : Item.box g T' cs ∈ its) (hc : PutAt v off cs cs') (hn : SetAt (.box g T' cs) (.box g T' cs') its its')
    (h : Jl P N B D (k + 1) ops Q rest L its' ps) (hD : D.takes k = false := by rfl) (hE : D.needs k = false := by rfl) : Jl P N B D k ops Q (o :: rest) L its ps :=
  Jl.un its' hw hd (fun a w hf hW => by
    obtain ⟨n, hn0, rfl⟩ := hn.at
    obtain ⟨hl, rfl⟩ := hc.wr
    have hg := Box_at hW (List.mem_of_getElem? hn0)
    have hv : v.cells.toList = [v] := by cases v <;> first | rfl | cases h1
    obtain ⟨w', e1, e2, e3⟩ := store_run (P := P) (us := [v]) hop (hf.ev hx) (hf.ev hy) hv hT.out hg (by simpa using hl) (by simpa using h1)
    exact ⟨w', e1, hW.upd hn0 (fun A hA hA0 => ⟨A, ⟨e2, hA.2⟩, fun k hk _ => hk, e3.os, e3.tape, e3.output, e3.size, fun k hk hn' => e3.block k hk (fun e => hn' ((hA.2 k).2 e))⟩)⟩) h hD hE
/-- A call by its contract. -/
theorem Jl.call {ι : Type} (I : ι → Prop) (val : ι → Value) (its' : ι → List Item) (ps' : ι → List (World → Prop)) {f : FuncId} {args : Array Operand} {ts : Array TypeId} {fi ca : Array Value} {vals : List Value} (hw : wants ops L o = some true) (hop : o.op = .call { callee := .value x, args := args, argTypes := ts }) (hd : o.dst = some d) (hN : Nat.blt d N = true)
    (hx : ev L x = some (.func (.func f) fi ca)) (he : Ent P f) (hargs : evs L args.toList = some vals)
    (hc : ∀ w, WS B w its ps → Calls P f (fi ++ vals.toArray ++ ca) w fun e w' => ∃ i, e = .returned (val i) ∧ I i ∧ WS B w' (its' i) (ps' i) ∧ (D.needs k = true → Below w.heap.size w w'))
    (h : ∀ i, I i → Jl P N B D (k + 1) ops Q rest ((d, val i) :: L) (its' i) (ps' i)) (hD : D.takes k = false := by rfl) : Jl P N B D k ops Q (o :: rest) L its ps := by
  refine ⟨?_⟩
  intro a w hf hW
  unfold runG
  rw [if_neg (by rw [hD]; simp), if_pos (hf.wants hw)]
  have hl := hf.evs hargs
  have ha : args.map a.eval = vals.toArray := by
    apply Array.toList_inj.1
    rw [Array.toList_map]; exact hl
  have hrun : (execOp a.eval o).run P w = .ok (.enter f (fi ++ vals.toArray ++ ca)) w := by
    unfold execOp; rw [hop]
    simp [resolve, hf.ev hx, Deferred.ofValue, invoke, ha, he.out]
  unfold Oper.wp
  rw [hrun, Oper.upon_enter]
  refine (hc w hW).mono ?_
  rintro e w' ⟨i, rfl, hi, hW', hb⟩
  refine ⟨hb, ?_⟩
  rw [hd]
  exact h i hi _ _ (hf.put hN _) hW'
/-- A call of a function by its name, that only makes; one answer. -/
theorem Jl.call1 {f : FuncId} {args : Array Operand} {ts : Array TypeId} {vals : List Value} (hw : wants ops L o = some true) (hop : o.op = .call { callee := .value (.func f), args := args, argTypes := ts }) (hd : o.dst = some d) (hN : Nat.blt d N = true)
    (he : Ent P f) (hargs : evs L args.toList = some vals)
    (hc : ∀ w, WS B w its ps → Calls P f vals.toArray w fun e w' => e = .returned v ∧ Below w.heap.size w w')
    (h : Jl P N B D (k + 1) ops Q rest ((d, v) :: L) its ps) (hD : D.takes k = false := by rfl) : Jl P N B D k ops Q (o :: rest) L its ps :=
  Jl.call (ι := Unit) (fun _ => True) (fun _ => v) (fun _ => its) (fun _ => ps) hw hop hd hN rfl he hargs (fun w hW => by
    simp only [Array.empty_append, Array.append_empty]
    exact (hc w hW).mono (fun e w' hh => ⟨(), hh.1, trivial, hW.call hh.2, fun _ => hh.2⟩)) (fun _ _ => h) hD
end
end Go.Proofs.YtblihmohgfmpgaaW.SL

namespace Go.Proofs.YtblihmohgfmpgaaW.SL
open Go Go.RowKit Go.Proofs.YtblihmohgfmpgaaW.PrintWords
set_option linter.unusedSimpArgs false
set_option linter.unusedVariables false

section
variable {α : Type} {dk : Kd α} {e b : Nat} {B : Base} {w w' : World} {its its' : List Item} {ps ps' : List (World → Prop)} {xs : List α} {v : Value} {ok : Nat → Prop}
/-- A row that a call has made. -/
theorem WS.rowR (h : WS B w its ps) (hb : Below w.heap.size w w') (hr : dk.R e w' w.heap.size ok v xs) (hB : b ≤ w.heap.size) : WS B w' (.row dk e b v xs :: its) ps :=
  h.new hb (A := fun k => w.heap.size ≤ k ∧ k < w'.heap.size) ⟨Kd.R_lower (Kd.R_mono (Kd.R_bound hr) (fun k hk => ⟨hk.2.1, hk.2.2.1⟩)) hB, fun k hk => hk.2⟩ (fun k hk => hk.1)
theorem WS.rowC {A : Option Addr} {n c : Nat} (h : WS B w its ps) (hi : Item.row dk e b (.slice A n c) xs ∈ its) : dk.C w A xs.length xs := by
  obtain ⟨S, hS⟩ := h.item hi
  exact (Kd.R_reads' hS.1).2.2
theorem WS.rowCap {A : Option Addr} {n c : Nat} (h : WS B w its ps) (hi : Item.row dk e b (.slice A n c) xs ∈ its) : n = xs.length ∧ xs.length ≤ c := by
  obtain ⟨S, hS⟩ := h.item hi
  have := Kd.R_reads' hS.1
  omega
/-- A world without memory, ahead of w. -/
def bare (w : World) : World := { w with heap := #[] }
end

section
variable {P : Program} {N : Nat} {B : Base} {L L' : Sl} {its its' : List Item} {ps ps' : List (World → Prop)} {Q : Exit → Act → World → Prop} {D : Dm} {k : Nat} {ops : Array Oper} {rest : List Oper} {o : Oper} {d T n m : Nat} {v v2 : Value} {x y z : Operand} {α β : Type} {dk : Kd α} {dl : Kd β} {e b : Nat}
/-- A call that hands back one row of its own (V: the whole answer around it). -/
theorem Jl.callR (b : Nat) (V : Value → Value) {xs : List α} {f : FuncId} {args : Array Operand} {ts : Array TypeId} {vals : List Value} (hw : wants ops L o = some true) (hop : o.op = .call { callee := .value (.func f), args := args, argTypes := ts }) (hd : o.dst = some d) (hN : Nat.blt d N = true)
    (he : Ent P f) (hargs : evs L args.toList = some vals)
    (hc : ∀ w, WS B w its ps → Calls P f vals.toArray w fun e' w' => ∃ v, e' = .returned (V v) ∧ dk.R e w' w.heap.size (fun _ => True) v xs ∧ Below w.heap.size w w')
    (h : ∀ A c, xs.length ≤ c → Jl P N B D (k + 1) ops Q rest ((d, V (.slice A xs.length c)) :: L) (.row dk e 0 (.slice A xs.length c) xs :: its) ps) (hD : D.takes k = false := by rfl) : Jl P N B D k ops Q (o :: rest) L its ps :=
  Jl.call (ι := Option Addr × Nat) (fun i => xs.length ≤ i.2) (fun i => V (.slice i.1 xs.length i.2)) (fun i => .row dk e 0 (.slice i.1 xs.length i.2) xs :: its) (fun _ => ps) hw hop hd hN rfl he hargs (fun w hW => by
    simp only [Array.empty_append, Array.append_empty]
    refine (hc w hW).mono ?_
    rintro e' w' ⟨v, rfl, hr, hb⟩
    obtain ⟨A, c, rfl, hl, _⟩ := Kd.R_reads hr
    exact ⟨(A, c), rfl, hl, hW.rowR hb hr (Nat.zero_le _), fun _ => hb⟩) (fun i hi => h i.1 i.2 hi) hD
end
section
variable {α β : Type} {dk : Kd α} {di : Kd β} {e ei b g m cap : Nat} {B : Base} {w w' : World} {its its' : List Item} {ps ps' : List (World → Prop)} {xs : List α} {ys ys' : List β} {v u : Value} {i : Int} {c : List Value} {x' : α}
/-- The element back in its row: it is x' now. -/
theorem WS.back {n : Nat} (h : WS B w (.row di ei b u ys' :: its) ps) (hn : its[n]? = some (.lent dk e b v xs i c u)) (hE : di.E = [])
    (hM : ∀ (w : World) ok, di.R ei w b ok u ys' → dk.M w b ok x' c) : WS B w (its.set n (.rowS dk e b v (xs.set i.toNat x'))) ps := by
  obtain ⟨q1, S, q2, q3, q4⟩ := h
  refine ⟨q1, S, q2.one hn (fun A1 A2 h1 h2 h3 => ?_), q3, q4⟩
  obtain ⟨ok, oki, g1, g2, g3, g4⟩ := h1
  obtain ⟨r1, r2⟩ := h2
  obtain ⟨_, f, hR⟩ := g1
  have hH : Kd.H dk e w b (fun k => (ok k ∧ ¬ oki k) ∨ some k = u.ownBlock) v xs i (fun k => some k = u.ownBlock) c :=
    ⟨fun k hk => .inr hk, f, Kd.R_mono hR (fun k hk => ⟨.inl hk, fun he => hk.2 (g2 k he.symm)⟩)⟩
  have hS := Kd.S_bound (Kd.H_back hH (hM w _ (Kd.R_tight hE r1)) (fun k hk => hk))
  refine ⟨Kd.S_mono hS (fun k hk => ?_), fun k hk => ?_⟩
  · rcases hk.1 with h | h
    · exact .inl ((g3 k).2 ⟨h, hk.2.2.1⟩)
    · exact .inr (r1.1 k h.symm)
  · rcases hk with h | h
    · exact ((g3 k).1 h).2
    · exact r2 k h
end
section
variable {P : Program} {N : Nat} {B : Base} {L L' : Sl} {its its' : List Item} {ps ps' : List (World → Prop)} {Q : Exit → Act → World → Prop} {D : Dm} {k : Nat} {ops : Array Oper} {rest : List Oper} {o : Oper} {d T n m off j g cap : Nat} {v v2 u rv : Value} {x y z : Operand} {α β : Type} {dk : Kd α} {e b : Nat} {xs : List α} {i : Int} {c c' : List Value}
namespace Y
/-- A whole element of a row of one's own. -/
theorem loadRA (zz : α) (hop : o.op = .load T x) (hx : ev L x = some (.pointer (some ⟨g, off, none⟩))) {k : Nat} (hT : AggT P T k) (hn : Item.row dk e b (.slice (some ⟨g, 0, none⟩) m cap) xs ∈ its) (i : Int) (h0 : 0 ≤ i) (h1 : i < (m : Int)) (hj : off = i.toNat * dk.sz) {us : List Value} (hk : Nat.beq us.length k = true) (hv : ∀ (w : World) ok cs, dk.M w b ok (xs.getD i.toNat zz) cs → cs = us) : Yd P N B o (.agg us.toArray) L its ps := .mk <| fun a w hf hW => by
  obtain ⟨S, hR, _⟩ := hW.item hn
  obtain ⟨cs, hcl, hM, hcc, _⟩ := Kd.R_elem hR zz i h0 h1
  obtain rfl := hv _ _ _ hM
  obtain rfl := Nat.eq_of_beq_eq_true hk
  have hC : Cells w ⟨g, off, none⟩ cs := fun j u hu => by
    have : (⟨g, off, none⟩ : Addr).add j = ⟨g, off + j, none⟩ := by unfold Addr.add; split <;> simp_all
    rw [this, hj]
    exact hcc j u hu
  unfold execOp; rw [hop]; simp [hf.ev hx, run_load_agg hT.out hC]
/-- An index into a row that lies at the head of its block. -/
theorem idx0 {size len cc e' : Nat} {k : IntKind} {i : Int} (hop : o.op = .indexAddr T x y) (hx : ev L x = some (.slice (some ⟨g, 0, none⟩) len cc)) (hy : ev L y = some (.int k i)) (hT : ElT P T e' size) (h0 : 0 ≤ i) (h1 : i < (len : Int)) : Yd P N B o (.pointer (some ⟨g, i.toNat * size, none⟩)) L its ps := by
  have h := idx (P := P) (N := N) (B := B) (its := its) (ps := ps) hop hx hy hT h0 h1
  have e : (⟨g, 0, none⟩ : Addr).add (i.toNat * size) = ⟨g, i.toNat * size, none⟩ := by unfold Addr.add; split <;> simp_all
  rwa [e] at h
end Y
end
end Go.Proofs.YtblihmohgfmpgaaW.SL

namespace Go.Proofs.YtblihmohgfmpgaaW.SL
open Go Go.RowKit Go.Proofs.YtblihmohgfmpgaaW.PrintWords
set_option linter.unusedSimpArgs false
set_option linter.unusedVariables false
theorem Own.single {i : Item} {w : World} {S : Nat → Prop} (h : i.p w S) : Own [i] w S := ⟨S, fun _ => False, h, fun _ h => h, fun k => by simp, fun _ _ h => h⟩
theorem row_form {α : Type} {dk : Kd α} {e b : Nat} {w : World} {S : Nat → Prop} {v : Value} {xs : List α} (hR : dk.R e w b S v xs) : (∃ c, v = .slice none 0 c ∧ xs = []) ∨ ∃ g c, v = .slice (some ⟨g, 0, none⟩) xs.length c := by
  obtain ⟨A, c, rfl, _, hC⟩ := Kd.R_reads hR
  cases A with
  | none =>
    left
    have : xs.length = 0 := by
      rcases Nat.eq_zero_or_pos xs.length with h0 | h0
      · exact h0
      · obtain ⟨ad, he, _⟩ := hC.2.2 h0
        cases he
    exact ⟨c, by rw [this], List.eq_nil_of_length_eq_zero this⟩
  | some ad =>
    obtain ⟨g, rfl⟩ := Kd.R_head hR
    exact .inr ⟨g, c, rfl⟩
section
variable {P : Program} {N : Nat} {B : Base} {L : Sl} {its : List Item} {ps : List (World → Prop)} {Q : Exit → Act → World → Prop} {D : Dm} {k : Nat} {ops : Array Oper} {rest : List Oper} {o : Oper} {c : Code}
theorem gateO (h : Jl P N B D k ops Q (o :: rest) L its ps) : Jl P N B D k ops Q (o :: rest) L its ps := h
theorem gateE (h : Jl P N B D k ops Q [] L its ps) : Jl P N B D k ops Q [] L its ps := h
theorem gateC (h : Cj P N B c Q L its ps) : Cj P N B c Q L its ps := h
end
end Go.Proofs.YtblihmohgfmpgaaW.SL

namespace Go.Proofs.YtblihmohgfmpgaaW.SL
open Go Go.RowKit Go.Proofs.YtblihmohgfmpgaaW.PrintWords Go.Proofs.YtblihmohgfmpgaaW.PrintLast
set_option linter.unusedSimpArgs false
set_option linter.unusedVariables false

universe u
section
variable {P : Program} {ops : Array Oper} {Q : Exit → Act → World → Prop} {md : Region.Mode} {ds : List Nat}
/-- Whatever order is picked from here on, and nothing that was there is written, but by ds. -/
def wpAnyB (P : Program) (md : Region.Mode) (ops : Array Oper) (Q : Exit → Act → World → Prop) (ds : List Nat) : Nat → Array Bool → Act → World → Prop
  | 0, listed, a, w => Region.ready md ops listed = [] ∧ Q .normal a w
  | fuel + 1, listed, a, w =>
    (Region.ready md ops listed = [] → Q .normal a w) ∧
    ∀ i ∈ Region.ready md ops listed, wpOp P ops Q i (fun a' w' => (i ∉ ds → Below w.heap.size w w') ∧ wpAnyB P md ops Q ds fuel (listed.setIfInBounds i true) a' w') a w
theorem wpAny_of_B : ∀ (fuel : Nat) (listed : Array Bool) (a : Act) (w : World), wpAnyB P md ops Q ds fuel listed a w → wpAny P md ops Q fuel listed a w
  | 0, _, _, _, h => h
  | fuel + 1, _, _, _, h => ⟨h.1, fun i hi => wpOp_mono (fun a' w' h' => wpAny_of_B fuel _ a' w' h'.2) (h.2 i hi)⟩
theorem yieldsIf_mono {S S' : World → Prop} {o : Oper} {v : Value} {a : Act} (h : YieldsIf P ops S o v a) (hs : ∀ w, S' w → S w) : YieldsIf P ops S' o v a :=
  h.imp (fun ⟨h1, h2⟩ => ⟨h1, fun w hw => h2 w (hs w hw)⟩) id
theorem wpAnyB_first {i : Nat} {oi : Oper} {v : Value} (hi : ops[i]? = some oi) (hsel : ∀ (j : Nat) (o : Oper) cs b, ops[j]? = some o → o.op ≠ .select cs b)
    (hQ : ∀ c a w, Q (.panic c) (a.put oi.dst v) w → Q (.panic c) a w) (n : Nat) :
    ∀ (fuel : Nat) (listed : Array Bool) (a : Act) (w : World),
      (∀ j oj, ops[j]? = some oj → j ≠ i → listed.getD j true = false → (∀ e ∈ oj.after, Region.binds md e = true → e.on ≠ i) → oi.apart ops oj = true) →
      ListedClosed md ops listed → (∀ d ∈ ds, listed.getD d true = false → Region.reachB md ops i n d = true) →
      i ∈ Region.ready md ops listed → YieldsIf P ops (fun W => Below w.heap.size w W) oi v a →
      wpAnyB P md ops Q ds fuel (listed.setIfInBounds i true) (a.put oi.dst v) w → wpAnyB P md ops Q ds (fuel + 1) listed a w := by
  intro fuel
  induction fuel with
  | zero =>
    intro listed a w _ _ _ hr hy H
    refine ⟨fun h => (by rw [h] at hr; cases hr), fun j hj => ?_⟩
    by_cases hji : j = i
    · subst hji; exact hy.wpOp hi (Below.refl _ _) ⟨fun _ => Below.refl _ _, H⟩
    · have := ready_mono hj hji
      rw [H.1] at this
      cases this
  | succ fuel ih =>
    intro listed a w hfree hc hd hr hy H
    refine ⟨fun h => (by rw [h] at hr; cases hr), fun j hj => ?_⟩
    by_cases hji : j = i
    · subst hji; exact hy.wpOp hi (Below.refl _ _) ⟨fun _ => Below.refl _ _, H⟩
    · have h1 := H.2 j (ready_mono hj hji)
      obtain ⟨hjun, oj, hoj, hall⟩ := mem_ready.1 hj
      have hiun := (mem_ready.1 hr).1
      have hnot : ∀ e ∈ oj.after, Region.binds md e = true → e.on ≠ i := fun e he hb heq => by
        have h1 := hall e he hb
        rw [heq] at h1
        rcases Nat.lt_or_ge i listed.size with h' | h'
        · simp [h'] at hiun h1; rw [hiun] at h1; cases h1
        · simp [Array.getElem?_eq_none h'] at h1
      have hjd : j ∉ ds := fun hm => Region.reach_not_ready hc (hd j hm hjun) hiun hj
      have h2 := wpOp_putIf hoj (hfree j oj hoj hji hjun hnot) (fun cs b => hsel i oi cs b hi) (fun cs b => hsel j oj cs b hoj) hQ hy h1
      have hfree' : ∀ k ok, ops[k]? = some ok → k ≠ i → (listed.setIfInBounds j true).getD k true = false →
          (∀ e ∈ ok.after, Region.binds md e = true → e.on ≠ i) → oi.apart ops ok = true := fun k ok hk hki hun hno => by
        refine hfree k ok hk hki ?_ hno
        by_cases hjk : j = k
        · subst hjk; exact hjun
        · rw [getD_set_ne true hjk] at hun; exact hun
      have hd' : ∀ d ∈ ds, (listed.setIfInBounds j true).getD d true = false → Region.reachB md ops i n d = true := fun d hm hun => by
        refine hd d hm ?_
        by_cases hjk : j = d
        · subst hjk; exact hjun
        · rw [getD_set_ne true hjk] at hun; exact hun
      refine wpOp_mono (fun a' w' h3 => ⟨h3.2.1, ih (listed.setIfInBounds j true) a' w' hfree' (hc.set hj) hd' (ready_mono hr (Ne.symm hji)) (yieldsIf_mono h3.1 (fun W hW => (h3.2.1 hjd).trans (hW.mono (h3.2.1 hjd).size))) ?_⟩) h2
      rw [Array.setIfInBounds_comm _ _ hji]
      exact h3.2.2
/-- May the operations be walked in the order ord? -/
def ordOk (T : Bool × List (List Nat × List Nat)) (ds : List Nat) (D : Dm) : Nat → List Nat → List Bool → Bool
  | _, [], l => readyT T.2 l == []
  | k, i :: r, l => (if D.takes k = true then takeT T ds l (l.set i true) i else (readyT T.2 l == [i]) && (D.needs k || ds.contains i)) && ordOk T ds D (k + 1) r (l.set i true)
theorem wpAnyB_of_run {D : Dm} (hQ : ∀ c a d v w, Q (.panic c) (Act.put a d v) w → Q (.panic c) a w) : ∀ (ord : List Nat) (k : Nat) (l : Array Bool) (a : Act) (w : World), ordOk (rtab md ops) ds D k ord l.toList = true → runG P ops Q D k (ord.filterMap (fun i => ops[i]?)) a w → wpAnyB P md ops Q ds ord.length l a w
  | [], k, l, a, w, h, hr => by
    simp only [ordOk, beq_iff_eq] at h
    rw [← ready_eq] at h
    exact ⟨h, hr⟩
  | i :: r, k, l, a, w, h, hr => by
    simp only [ordOk, Bool.and_eq_true] at h
    obtain ⟨h1, h2⟩ := h
    have hset : l.toList.set i true = (l.setIfInBounds i true).toList := by rw [Array.toList_setIfInBounds]
    by_cases ht : D.takes k = true
    · rw [if_pos ht] at h1
      have h3 := take_of (l := l) (l' := l.setIfInBounds i true) rfl (by rw [← hset]; exact h1)
      simp only [takeB, Bool.and_eq_true, beq_iff_eq] at h3
      obtain ⟨⟨⟨⟨⟨g1, g2⟩, g3⟩, g4⟩, g5⟩, _⟩ := h3
      have g3' : i ∈ Region.ready md ops l := by simpa using g3
      obtain ⟨_, o, ho, _⟩ := mem_ready.1 g3'
      rw [List.filterMap_cons, ho] at hr
      dsimp only at hr
      unfold runG at hr
      rw [if_pos ht] at hr
      obtain ⟨v, hy, hr⟩ := hr
      exact wpAnyB_first ho (Region.noSelect_spec g1) (fun c a w => hQ c a _ _ w) ops.size _ l a w (Region.free_spec ho g2) (Region.closedB_spec g4)
        (fun d hm hun => by have := List.all_eq_true.1 g5 d hm; rw [hun] at this; simpa using this) g3' hy (wpAnyB_of_run hQ r (k + 1) _ _ w (by rw [← hset]; exact h2) hr)
    · rw [if_neg ht] at h1
      simp only [Bool.and_eq_true, beq_iff_eq, Bool.or_eq_true] at h1
      obtain ⟨h3, h4⟩ := h1
      rw [← ready_eq] at h3
      have g3' : i ∈ Region.ready md ops l := by rw [h3]; simp
      obtain ⟨_, o, ho, _⟩ := mem_ready.1 g3'
      rw [List.filterMap_cons, ho] at hr
      dsimp only at hr
      unfold runG at hr
      rw [if_neg ht] at hr
      refine ⟨fun h0 => (by rw [h0] at g3'; cases g3'), fun j hj => ?_⟩
      rw [h3] at hj
      obtain rfl : j = i := by simpa using hj
      unfold wpOp
      rw [ho]
      dsimp only
      have hds : j ∉ ds → D.needs k = true := fun hn => h4.resolve_right (fun h => hn (by simpa using h))
      by_cases hw : Region.wanted o (yielded ops a.tmps) = true
      · rw [if_pos hw] at hr ⊢
        exact .inl (Oper.wp_mono (fun a' w' h' => ⟨fun hn => h'.1 (hds hn), wpAnyB_of_run hQ r (k + 1) _ _ w' (by rw [← hset]; exact h2) h'.2⟩) hr)
      · rw [if_neg hw] at hr ⊢
        exact ⟨fun _ => Below.refl _ _, wpAnyB_of_run hQ r (k + 1) _ _ w (by rw [← hset]; exact h2) hr⟩
theorem memH {α : Type u} {x : α} {l : List α} : x ∈ x :: l := .head _
theorem memT {α : Type u} {x y : α} {l : List α} (h : x ∈ l) : x ∈ y :: l := .tail _ h
def elemN (n : Nat) : List Nat → Bool
  | [] => false
  | m :: r => Nat.beq m n || elemN n r
/-- tk: the places taken first; nd: the places that write. -/
def mkD (tk nd : List Nat) : Dm := ⟨fun k => elemN k tk, fun k => !elemN k nd⟩
def drawOk (ops : Array Oper) (ds : List Nat) (D : Dm) (ord : List Nat) : Bool := ordOk (rtab .any ops) ds D 0 ord (List.replicate ops.size false) && Nat.beq ord.length ops.size
end
section
variable {P : Program} {N : Nat} {B : Base} {L L' : Sl} {its its' : List Item} {ps ps' : List (World → Prop)} {Q : Exit → Act → World → Prop} {ops : Array Oper} {c : Code}
theorem Cj.regionD {id : Nat} (hc : c = .region id ops true) (D : Dm) (ds : List Nat) (ord : List Nat) (hm : P.follows .mixedOrders = true) (hok : drawOk ops ds D ord = true)
    (h : Jl P N B D 0 ops Q (ord.filterMap (fun i => ops[i]?)) L its ps) (hQ : ∀ c a d v w, Q (.panic c) (Act.put a d v) w → Q (.panic c) a w := by intro c a d v w h; cases d <;> exact h) : Cj P N B c Q L its ps := by
  subst hc
  refine ⟨?_⟩
  intro a w hf hw
  refine wp_region_any hm ?_
  have hb : Below w.heap.size w { w with drawn := w.drawn + 1 } := ⟨rfl, rfl, rfl, Nat.le_refl _, fun _ _ => rfl⟩
  simp only [drawOk, Bool.and_eq_true] at hok
  have := wpAnyB_of_run (md := .any) hQ ord 0 (Array.replicate ops.size false) a { w with drawn := w.drawn + 1 } (by simpa using hok.1) (h a _ hf (hw.call hb))
  rw [Nat.eq_of_beq_eq_true hok.2] at this
  exact wpAny_of_B _ _ _ _ this
end
section
variable {α : Type} {dk : Kd α} {e b : Nat} {B : Base} {w w' : World} {its its' : List Item} {ps ps' : List (World → Prop)} {xs : List α} {v : Value} {ok : Nat → Prop}
theorem WS.rowSC {A : Option Addr} {n c : Nat} (h : WS B w its ps) (hi : Item.rowS dk e b (.slice A n c) xs ∈ its) : dk.C w A xs.length xs := by
  obtain ⟨S, hS⟩ := h.item hi
  exact (Kd.S_reads' hS.1).2.2
theorem WS.rowSCap {A : Option Addr} {n c : Nat} (h : WS B w its ps) (hi : Item.rowS dk e b (.slice A n c) xs ∈ its) : n = xs.length ∧ xs.length ≤ c := by
  obtain ⟨S, hS⟩ := h.item hi
  have := Kd.S_reads' hS.1
  omega
theorem WS.rowRS (h : WS B w its ps) (hb : Below w.heap.size w w') (hr : Kd.S dk e w' w.heap.size ok v xs) (hB : b ≤ w.heap.size) : WS B w' (.rowS dk e b v xs :: its) ps :=
  h.new hb (A := fun k => w.heap.size ≤ k ∧ k < w'.heap.size) ⟨Kd.S_lower (Kd.S_mono (Kd.S_bound hr) (fun k hk => ⟨hk.2.1, hk.2.2.1⟩)) hB, fun k hk => hk.2⟩ (fun k hk => hk.1)
end
section
variable {P : Program} {N : Nat} {B : Base} {L L' : Sl} {its its' : List Item} {ps ps' : List (World → Prop)} {Q : Exit → Act → World → Prop} {D : Dm} {k : Nat} {ops : Array Oper} {rest : List Oper} {o : Oper} {d T n m : Nat} {v v2 : Value} {x y z : Operand} {α : Type} {dk : Kd α} {e : Nat}
/-- A call that hands back one row, no two elements of which lead to one block. -/
theorem Jl.callRS (V : Value → Value) {xs : List α} {f : FuncId} {args : Array Operand} {ts : Array TypeId} {vals : List Value} (hw : wants ops L o = some true) (hop : o.op = .call { callee := .value (.func f), args := args, argTypes := ts }) (hd : o.dst = some d) (hN : Nat.blt d N = true)
    (he : Ent P f) (hargs : evs L args.toList = some vals)
    (hc : ∀ w, WS B w its ps → Calls P f vals.toArray w fun e' w' => ∃ v, e' = .returned (V v) ∧ Kd.S dk e w' w.heap.size (fun _ => True) v xs ∧ Below w.heap.size w w')
    (h : ∀ A c, xs.length ≤ c → Jl P N B D (k + 1) ops Q rest ((d, V (.slice A xs.length c)) :: L) (.rowS dk e 0 (.slice A xs.length c) xs :: its) ps) (hD : D.takes k = false := by rfl) : Jl P N B D k ops Q (o :: rest) L its ps :=
  Jl.call (ι := Option Addr × Nat) (fun i => xs.length ≤ i.2) (fun i => V (.slice i.1 xs.length i.2)) (fun i => .rowS dk e 0 (.slice i.1 xs.length i.2) xs :: its) (fun _ => ps) hw hop hd hN rfl he hargs (fun w hW => by
    simp only [Array.empty_append, Array.append_empty]
    refine (hc w hW).mono ?_
    rintro e' w' ⟨v, rfl, hr, hb⟩
    obtain ⟨A, c, rfl⟩ := Kd.S_slice hr
    obtain ⟨_, hl, _⟩ := Kd.S_reads' hr
    exact ⟨(A, c), rfl, hl, hW.rowRS hb hr (Nat.zero_le _), fun _ => hb⟩) (fun i hi => h i.1 i.2 hi) hD
end
end Go.Proofs.YtblihmohgfmpgaaW.SL

namespace Go.Proofs.YtblihmohgfmpgaaW.SL
open Go Go.RowKit Go.Proofs.YtblihmohgfmpgaaW.PrintWords
set_option linter.unusedSimpArgs false
set_option linter.unusedVariables false

/-- Element i's cells. -/
def rowOf (sz : Nat) (cs : List Value) (i : Nat) : List Value := (cs.drop (i * sz)).take sz
theorem rowOf_get {sz : Nat} {cs : List Value} {i k : Nat} (hk : k < sz) : (rowOf sz cs i)[k]? = cs[i * sz + k]? := by simp [rowOf, List.getElem?_take, hk]
theorem rowOf_ext {sz : Nat} {cs cs' : List Value} {i j : Nat} (h : ∀ k, k < sz → cs[i * sz + k]? = cs'[j * sz + k]?) : rowOf sz cs i = rowOf sz cs' j := by
  apply List.ext_getElem?
  intro k
  by_cases hk : k < sz
  · rw [rowOf_get hk, rowOf_get hk, h k hk]
  · simp [rowOf, List.getElem?_take, hk]
theorem wr_length {cs us : List Value} {off : Nat} (h : off + us.length ≤ cs.length) : (wr cs off us).length = cs.length := by
  unfold wr; simp; omega
theorem wr_get {cs us : List Value} {off j : Nat} (h : off + us.length ≤ cs.length) : (wr cs off us)[j]? = if j < off then cs[j]? else if j < off + us.length then us[j - off]? else cs[j]? := by
  unfold wr
  rw [List.getElem?_append, List.getElem?_append]
  simp only [List.length_take, show min off cs.length = off by omega]
  by_cases h1 : j < off
  · simp [h1, List.getElem?_take]
  · rw [if_neg h1, if_neg h1]
    by_cases h2 : j < off + us.length
    · rw [if_pos (by omega), if_pos h2]
    · rw [if_neg (by omega), if_neg h2, List.getElem?_drop]
      congr 1; omega
theorem rowOf_wr_eq {sz : Nat} {cs us : List Value} {i : Nat} (hu : us.length = sz) (h : i * sz + sz ≤ cs.length) : rowOf sz (wr cs (i * sz) us) i = us := by
  apply List.ext_getElem?
  intro k
  by_cases hk : k < sz
  · rw [rowOf_get hk, wr_get (by omega), if_neg (by omega), if_pos (by omega)]
    congr 1; omega
  · rw [List.getElem?_eq_none (by omega : us.length ≤ k)]
    simp [rowOf, List.getElem?_take, hk]
theorem mul_lt_step {i j sz : Nat} (h : i < j) : i * sz + sz ≤ j * sz := by
  have := Nat.mul_le_mul_right sz (show i + 1 ≤ j from h)
  rwa [Nat.add_mul, Nat.one_mul] at this
theorem rowOf_wr_lt {sz : Nat} {cs us : List Value} {i j : Nat} (h : i * sz + us.length ≤ cs.length) (hj : j < i) : rowOf sz (wr cs (i * sz) us) j = rowOf sz cs j :=
  rowOf_ext fun k hk => by
    have := mul_lt_step (sz := sz) hj
    rw [wr_get h, if_pos (by omega)]
theorem rowOf_wr_gt {sz : Nat} {cs us : List Value} {i j : Nat} (h : i * sz + us.length ≤ cs.length) (hu : us.length ≤ sz) (hj : i < j) : rowOf sz (wr cs (i * sz) us) j = rowOf sz cs j :=
  rowOf_ext fun k hk => by
    have := mul_lt_step (sz := sz) hj
    rw [wr_get h, if_neg (by omega), if_neg (by omega)]
theorem raw_cells {sz b : Nat} {w : World} {ok : Nat → Prop} {x cs : List Value} (h : (Kd.raw sz).M w b ok x cs) : cs = x := by
  have h' : cs = x ∧ cs.length = sz ∧ ∀ u ∈ cs, u.oneCell' = true := h
  exact h'.1
/-- A row of bare cells, as its block. -/
theorem raw_box {sz e b g n cap : Nat} {w : World} {ok : Nat → Prop} {rows : List (List Value)} (h : (Kd.raw sz).R e w b ok (.slice (some ⟨g, 0, none⟩) n cap) rows) :
    ∃ cs : List Value, w.heap[g]? = some (.cells cs.toArray e (0, 0)) ∧ cs.length = cap * sz ∧ b ≤ g ∧ n = rows.length ∧ n ≤ cap ∧ cap ≤ maxLen ∧ (∀ j us, rows[j]? = some us → rowOf sz cs j = us ∧ us.length = sz ∧ ∀ u ∈ us, u.oneCell' = true) := by
  obtain ⟨h0, inner, ⟨hl, ho⟩, hr⟩ := h
  rw [show (Kd.raw sz).sz = sz from rfl] at hl hr ho
  rcases ho with ⟨hv, _⟩ | ⟨g', cap', cur, hv, hb, hh, h1, h2, h3, h4⟩
  · cases hv
  · injection hv with e1 e2 e3
    injection e1 with e1
    injection e1 with e1
    subst e1; subst e3
    refine ⟨cur.toList, by simpa using hh, by simpa using h3, hb, e2, by omega, h2, fun j us hj => ?_⟩
    obtain ⟨k1, k2, k3⟩ := hr.2 j us hj
    refine ⟨?_, ?_, ?_⟩
    · rw [← k1, ← h4]
      have hjl : j < rows.length := (List.getElem?_eq_some_iff.1 hj).1
      apply List.ext_getElem?
      intro k
      by_cases hk : k < sz
      · have := mul_lt_step (sz := sz) hjl
        rw [rowOf_get hk, List.getElem?_take, if_pos hk, List.getElem?_drop, List.getElem?_take, if_pos (by show j * sz + k < rows.length * sz; omega)]
      · simp [rowOf, List.getElem?_take, hk]
    · rw [← k1]; exact k2
    · rw [← k1]; exact k3
theorem box_raw {sz e b g cap m : Nat} {w : World} {ok : Nat → Prop} {cs : List Value} {rows : List (List Value)} (hh : w.heap[g]? = some (.cells cs.toArray e (0, 0))) (hl : cs.length = cap * sz) (hb : b ≤ g) (hm : rows.length = m) (hc : m ≤ cap) (hx : cap ≤ maxLen) (hok : ok g)
    (hr : ∀ j us, rows[j]? = some us → rowOf sz cs j = us ∧ us.length = sz ∧ ∀ u ∈ us, u.oneCell' = true) : (Kd.raw sz).R e w b ok (.slice (some ⟨g, 0, none⟩) m cap) rows := by
  subst hm
  have hmul := Nat.mul_le_mul_right sz hc
  refine ⟨fun k hk => ?_, cs.take (rows.length * sz), ⟨by rw [List.length_take]; show min (rows.length * sz) cs.length = rows.length * sz; omega, .inr ⟨g, cap, cs.toArray, rfl, hb, hh, hc, hx, by show cs.toArray.size = cap * sz; simpa using hl, by rfl⟩⟩, by rw [List.length_take]; show min (rows.length * sz) cs.length = rows.length * sz; omega, fun j us hj => ?_⟩
  · have : g = k := by simpa [Value.ownBlock] using hk
    rw [← this]; exact hok
  · obtain ⟨k1, k2, k3⟩ := hr j us hj
    have hjl : j < rows.length := (List.getElem?_eq_some_iff.1 hj).1
    have e1 : ((cs.take (rows.length * sz)).drop (j * sz)).take sz = us := by
      rw [← k1]
      apply List.ext_getElem?
      intro k
      by_cases hk : k < sz
      · have := mul_lt_step (sz := sz) hjl
        rw [rowOf_get hk, List.getElem?_take, if_pos hk, List.getElem?_drop, List.getElem?_take, if_pos (by omega)]
      · simp [rowOf, List.getElem?_take, hk]
    show ((cs.take (rows.length * sz)).drop (j * sz)).take sz = us ∧ (((cs.take (rows.length * sz)).drop (j * sz)).take sz).length = sz ∧ ∀ u ∈ ((cs.take (rows.length * sz)).drop (j * sz)).take sz, u.oneCell' = true
    rw [e1]
    exact ⟨rfl, k2, k3⟩
/-- A row of bare cells that is read, and what its elements are. -/
theorem C_of_rows {α : Type} {dk : Kd α} {w : World} {A : Option Addr} {n : Nat} {rows : List (List Value)} {xs : List α} (h : (Kd.raw dk.sz).C w A n rows) (hl : rows.length = xs.length) (hK : ∀ (j : Nat) (x : α) (us : List Value), xs[j]? = some x → rows[j]? = some us → dk.K w x us) : dk.C w A n xs := by
  unfold Kd.C ReadsRow at *
  rw [show (Kd.raw dk.sz).sz = dk.sz from rfl] at h
  obtain ⟨h1, h2, h3⟩ := h
  refine ⟨by omega, h2, fun hp => ?_⟩
  obtain ⟨ad, ha, h4⟩ := h3 hp
  refine ⟨ad, ha, fun j x hx => ?_⟩
  have hj : j < rows.length := by have := (List.getElem?_eq_some_iff.1 hx).1; omega
  obtain ⟨c, hc1, hc2, hc3⟩ := h4 j _ (List.getElem?_eq_getElem hj)
  obtain ⟨k1, _, _⟩ := hc2
  exact ⟨c, hc1, by rw [k1]; exact hK j x _ hx (List.getElem?_eq_getElem hj), hc3⟩
section
variable {P : Program} {N : Nat} {B : Base} {L L' : Sl} {its its' : List Item} {ps ps' : List (World → Prop)} {Q : Exit → Act → World → Prop} {D : Dm} {k : Nat} {ops : Array Oper} {rest : List Oper} {o : Oper} {d T T' n m off g cap len : Nat} {v v2 v0 : Value} {x y z : Operand} {cs us vs : List Value} {α : Type} {dk : Kd α} {e b : Nat}
namespace Y
/-- A whole element of a block. -/
theorem loadB (hop : o.op = .load T x) (hx : ev L x = some (.pointer (some ⟨g, off, none⟩))) (hT : AggT P T m) (hn : Item.box g T' cs ∈ its) (hl : off + m ≤ cs.length) : Yd P N B o (.agg ((cs.drop off).take m).toArray) L its ps := .mk <| fun a w hf hW => by
  have hg := Box_at hW hn
  have hc : Cells w ⟨g, off, none⟩ ((cs.drop off).take m) := fun j u hu => by
    refine Box_cells hg off j u ?_
    rw [List.getElem?_take] at hu
    split at hu
    · exact hu
    · cases hu
  have hlen : ((cs.drop off).take m).length = m := by simp; omega
  unfold execOp; rw [hop]
  simp only [hf.ev hx]
  have := run_load_agg (P := P) (w := w) (T := T) (ad := ⟨g, off, none⟩) (us := (cs.drop off).take m) (by rw [hlen]; exact hT.out) hc
  simp [this]
/-- The same, the element known. -/
theorem loadE {u : List Value} (hop : o.op = .load T x) (hx : ev L x = some (.pointer (some ⟨g, off, none⟩))) (hT : AggT P T m) (hn : Item.box g T' cs ∈ its) (hu : (cs.drop off).take m = u) (hl : u.length = m) : Yd P N B o (.agg u.toArray) L its ps := by
  rcases Nat.lt_or_ge cs.length (off + m) with h0 | h0
  · have hu0 : u.length = min m (cs.length - off) := by rw [← hu]; simp
    have hm : m = 0 := by omega
    subst hm
    obtain rfl : u = [] := List.eq_nil_of_length_eq_zero hl
    refine .mk fun a w hf hW => ?_
    have := run_load_agg (P := P) (w := w) (T := T) (ad := ⟨g, off, none⟩) (us := []) hT.out (fun j v hv => by simp at hv)
    unfold execOp; rw [hop]
    simp [hf.ev hx, this]
  · subst hu
    exact loadB hop hx hT hn h0
/-- A closure over one variable. -/
theorem mkFn1 {f : FuncId} (hop : o.op = .makeFunc (.func f) #[] #[x]) (hx : ev L x = some v) : Yd P N B o (.func (.func f) #[] #[v]) L its ps := .mk <| fun a w hf hW => by
  unfold execOp; rw [hop]; simp [Instr.makeFunc, hf.ev hx]
/-- x[i:] -/
theorem sliceL {kk : IntKind} {i : Int} {size e' : Nat} (hop : o.op = .slice T x (some y) none none) (hx : ev L x = some (.slice (some ⟨g, 0, none⟩) len cap)) (hy : ev L y = some (.int kk i)) (hT : ElT P T e' size) (h0 : 0 ≤ i) (h1 : i < (len : Int)) (h2 : len ≤ cap) : Yd P N B o (.slice (some ⟨g, i.toNat * size, none⟩) (len - i.toNat) (cap - i.toNat)) L its ps := .mk <| fun a w hf hW => by
  have hTo := hT.out
  unfold elT at hTo
  cases hu : P.underlying T with
  | none => simp [hu] at hTo
  | some dd =>
    cases dd <;> simp [hu] at hTo
    rename_i e2
    obtain ⟨j, hj, rfl, rfl⟩ := hTo
    have he : P.elem T = e2 := by simp [Program.elem, hu]
    have h3 := run_slice_l (P := P) (w := w) T (some ⟨g, 0, none⟩) len cap (by rw [he]; exact hu) kk i h0 (by omega)
    unfold execOp; rw [hop]
    simp only [hf.ev hx, hf.ev hy, Option.map_some, Option.map_none]
    have h4 : (sizeOf (P.elem T)).run P w = .ok j.size w := by rw [he]; simp [sizeOf, typeInfo, hj]
    have h5 : (⟨g, 0, none⟩ : Addr).add (i.toNat * j.size) = ⟨g, i.toNat * j.size, none⟩ := by unfold Addr.add; split <;> simp_all
    simp [Instr.sliceAt, run_underlying hu, h3, h4, sliced, show ¬ cap = i.toNat by omega, h5]
/-- x[:i] -/
theorem sliceH {kk : IntKind} {i : Int} {size e' : Nat} (hop : o.op = .slice T x none (some y) none) (hx : ev L x = some (.slice (some ⟨g, 0, none⟩) len cap)) (hy : ev L y = some (.int kk i)) (hT : ElT P T e' size) (h0 : 0 ≤ i) (h1 : i ≤ (cap : Int)) : Yd P N B o (.slice (some ⟨g, 0, none⟩) i.toNat cap) L its ps := .mk <| fun a w hf hW => by
  have hTo := hT.out
  unfold elT at hTo
  cases hu : P.underlying T with
  | none => simp [hu] at hTo
  | some dd =>
    cases dd <;> simp [hu] at hTo
    rename_i e2
    obtain ⟨j, hj, rfl, rfl⟩ := hTo
    have he : P.elem T = e2 := by simp [Program.elem, hu]
    have h3 := run_slice_h (P := P) (w := w) T (some ⟨g, 0, none⟩) len cap (by rw [he]; exact hu) kk i h0 h1
    unfold execOp; rw [hop]
    simp only [hf.ev hx, hf.ev hy, Option.map_some, Option.map_none]
    have h4 : (sizeOf (P.elem T)).run P w = .ok j.size w := by rw [he]; simp [sizeOf, typeInfo, hj]
    have h5 : (⟨g, 0, none⟩ : Addr).add 0 = ⟨g, 0, none⟩ := by unfold Addr.add; split <;> simp_all
    simp [Instr.sliceAt, run_underlying hu, h3, h4, sliced, h5]
end Y
/-- A whole element of a block is stored. -/
theorem Jl.storeB (hw : wants ops L o = some true) (hop : o.op = .store T x y) (hd : o.dst = none) (hx : ev L x = some (.pointer (some ⟨g, off, none⟩))) (hy : ev L y = some (.agg us.toArray)) (hT : SzT P T m) (hn : SetAt (.box g T' cs) (.box g T' (wr cs off us)) its its') (hm : us.length = m) (hl : off + us.length ≤ cs.length) (h1 : ∀ u ∈ us, u.oneCell' = true)
    (h : Jl P N B D (k + 1) ops Q rest L its' ps) (hD : D.takes k = false := by rfl) (hE : D.needs k = false := by rfl) : Jl P N B D k ops Q (o :: rest) L its ps :=
  Jl.un its' hw hd (fun a w hf hW => by
    subst hm
    obtain ⟨n, hn0, rfl⟩ := hn.at
    have hg := Box_at hW (List.mem_of_getElem? hn0)
    obtain ⟨w', e1, e2, e3⟩ := store_run (P := P) (us := us) hop (hf.ev hx) (hf.ev hy) (by simp [Value.cells]) hT.out hg hl h1
    exact ⟨w', e1, hW.upd hn0 (fun A hA hA0 => ⟨A, ⟨e2, hA.2⟩, fun k hk _ => hk, e3.os, e3.tape, e3.output, e3.size, fun k hk hn' => e3.block k hk (fun e => hn' ((hA.2 k).2 e))⟩)⟩) h hD hE
theorem WS.rowSV {A : Option Addr} {w : World} {c : Nat} {xs : List α} (h : WS B w its ps) (hi : Item.rowS dk e b (.slice A n c) xs ∈ its) : ∃ P0 : Nat → Prop, Kd.V dk e w w.heap.size (fun k => P0 k) (.slice A n c) xs := by
  obtain ⟨S, hS⟩ := h.item hi
  exact ⟨S, Kd.S_V hS.1⟩
/-- A whole record is stored into its block, its cells unknown. -/
theorem Jl.storeW (hw : wants ops L o = some true) (hop : o.op = .store T x y) (hd : o.dst = none) (hx : ev L x = some (.pointer (some ⟨g, 0, none⟩))) (hy : ev L y = some (.agg us.toArray)) (hT : SzT P T m) (hn : SetAt (.box g T' cs) (.box g T' us) its its') (hm : us.length = m) (hl : Nat.beq cs.length m = true) (h1 : ∀ u ∈ us, u.oneCell' = true)
    (h : Jl P N B D (k + 1) ops Q rest L its' ps) (hD : D.takes k = false := by rfl) (hE : D.needs k = false := by rfl) : Jl P N B D k ops Q (o :: rest) L its ps := by
  have hl' := Nat.eq_of_beq_eq_true hl
  have e : wr cs 0 us = us := by unfold wr; simp [hm, hl']
  exact Jl.storeB (m := m) (us := us) (off := 0) (cs := cs) (g := g) (T' := T') (its' := its') hw hop hd hx hy hT (by rw [e]; exact hn) hm (by omega) h1 h hD hE
/-- The end of a block's cells is cleared. -/
theorem Jl.clearB {e' sz : Nat} {zs : List Value} {ts : Array TypeId} (hw : wants ops L o = some true) (hop : o.op = .call { callee := .builtin .clear, args := #[x], argTypes := ts }) (hts : ts[0]? = some T) (hd : o.dst = none) (hx : ev L x = some (.slice (some ⟨g, off, none⟩) n cap)) (hT : ElT P T e' sz) (hz : ZeroT P e' zs) (hzs : zs.length = sz) (hone : allOne zs = true) (hb : Item.box g T' cs ∈ its) (hl : off + n * sz ≤ cs.length) (h0 : 0 < n)
    {its' : List Value → List Item} (hn : ∀ cs', SetAt (.box g T' cs) (.box g T' cs') its (its' cs'))
    (h : ∀ cs', cs'.length = cs.length → (∀ j, j < off → cs'[j]? = cs[j]?) → Jl P N B D (k + 1) ops Q rest L (its' cs') ps) (hD : D.takes k = false := by rfl) (hE : D.needs k = false := by rfl) : Jl P N B D k ops Q (o :: rest) L its ps := by
  refine ⟨?_⟩
  intro a w hf hW
  have hg := Box_at hW hb
  have hTo := hT.out
  unfold elT at hTo
  cases hu : P.underlying T with
  | none => simp [hu] at hTo
  | some dd =>
    cases dd <;> simp [hu] at hTo
    rename_i e2
    obtain ⟨j, hj, rfl, rfl⟩ := hTo
    obtain ⟨z, hz1, hz2⟩ := run_zeroT (w := w) hz.out
    let us := (Builtin.zeroCells z.cells n).toList
    have hzl : z.cells.size = j.size := by rw [← hzs, ← hz2]; simp
    have hul : us.length = n * j.size := by simp [us, Builtin.zeroCells, hzl]
    have huo : ∀ u ∈ us, u.oneCell' = true := by
      intro u hu'
      simp only [us, Builtin.zeroCells, Array.toList_map, List.mem_map] at hu'
      obtain ⟨i, hi, rfl⟩ := hu'
      have hi' : i < n * z.cells.size := by simpa using hi
      have hpos : 0 < z.cells.size := by
        rcases Nat.eq_zero_or_pos z.cells.size with h' | h'
        · rw [h'] at hi'; simp at hi'
        · exact h'
      have hlt : i % z.cells.size < z.cells.size := Nat.mod_lt _ hpos
      rw [getElem!_pos z.cells _ hlt]
      refine allOne_mem hone _ ?_
      rw [← hz2]
      simp
    obtain ⟨w', e1, e2, e3, e4, e5, e6, e7⟩ := storeCells_run (P := P) us 0 ⟨g, off, none⟩ cs w rfl rfl hg (by simpa [hul] using hl) huo
    unfold runG
    rw [if_neg (by rw [hD]; simp), if_pos (hf.wants hw)]
    have hrun : (execOp a.eval o).run P w = .ok (.value (.tuple #[])) w' := by
      obtain ⟨n', rfl⟩ : ∃ n', n = n' + 1 := ⟨n - 1, by omega⟩
      unfold execOp; rw [hop]
      simp [resolve, invoke, builtin, Builtin.clear_, hts, hf.ev hx, run_underlying hu, hz1, us] at e1 ⊢
      rw [e1]; rfl
    unfold Oper.wp
    rw [hrun, Oper.upon_value, hd]
    refine ⟨fun h' => (by rw [hE] at h'; cases h'), ?_⟩
    have hlen : (wr cs (off + 0) us).length = cs.length := wr_length (by rw [hul]; simpa using hl)
    refine h (wr cs (off + 0) us) hlen (fun j' hj' => ?_) _ _ (hf.put_none _) ?_
    · rw [wr_get (by rw [hul]; simpa using hl), if_pos (by omega)]
    · obtain ⟨n2, hn0, he⟩ := (hn (wr cs (off + 0) us)).at
      rw [he]
      exact hW.upd hn0 (fun A hA hA0 => ⟨A, ⟨e2, hA.2⟩, fun k hk _ => hk, e3, e4, e5, by omega, fun k hk hn' => e7 k (fun e => hn' ((hA.2 k).2 e))⟩)
/-- A call of a closure that only makes. -/
theorem Jl.callc {f : FuncId} {fi ca : Array Value} {args : Array Operand} {ts : Array TypeId} {vals : List Value} (hw : wants ops L o = some true) (hop : o.op = .call { callee := .value x, args := args, argTypes := ts }) (hd : o.dst = some d) (hN : Nat.blt d N = true)
    (hx : ev L x = some (.func (.func f) fi ca)) (he : Ent P f) (hargs : evs L args.toList = some vals)
    (hc : ∀ w, WS B w its ps → Calls P f (fi ++ vals.toArray ++ ca) w fun e w' => e = .returned v ∧ Below w.heap.size w w')
    (h : Jl P N B D (k + 1) ops Q rest ((d, v) :: L) its ps) (hD : D.takes k = false := by rfl) : Jl P N B D k ops Q (o :: rest) L its ps :=
  Jl.call (ι := Unit) (fun _ => True) (fun _ => v) (fun _ => its) (fun _ => ps) hw hop hd hN hx he hargs (fun w hW => by
    exact (hc w hW).mono (fun e w' hh => ⟨(), hh.1, trivial, hW.call hh.2, fun _ => hh.2⟩)) (fun _ _ => h) hD
/-- Beside item n, whatever is written in it. -/
theorem WS.beside {w : World} (h : WS B w its ps) {n : Nat} {i : Item} (hn : its[n]? = some i) : ∃ A, i.p w A ∧ (∀ W, Aft A w W → WS B W (its.eraseIdx n) ps) ∧
    ∀ (w' : World) (i' : Item) (A' : Nat → Prop), i'.p w' A' → (∀ k, A' k → k < w.heap.size → A k) → Aft A w w' → WS B w' (i' :: its.eraseIdx n) ps := by
  obtain ⟨h1, S, h2, h3, h4⟩ := h
  obtain ⟨A, C, g0, g1, g2, g3⟩ := h2.out hn
  have hAS : ∀ k, A k → S k := fun k hk => (g2 k).2 (.inl hk)
  have wk : ∀ W, Aft A w W → Aft S w W := fun W ha => ⟨ha.os, ha.tape, ha.output, ha.size, fun k hk hn => ha.block k hk (fun h' => hn (hAS k h'))⟩
  have wB : ∀ W, Aft A w W → Aft B.S B.w W := fun W ha => h1.trans ha (fun k hk hlt => (h3 k (hAS k hk)).resolve_right (by omega))
  have gl : ∀ W, Aft A w W → Own (its.eraseIdx n) W C := fun W ha => g1.loc ha.size (fun k hk => ha.block k (g1.lt k hk) (fun h' => g3 k h' hk))
  refine ⟨A, g0, fun W ha => ⟨wB W ha, C, gl W ha, fun k hk => h3 k ((g2 k).2 (.inr hk)), fun p hp => (h4 p hp).step (wk W ha) (fun k hk _ => (g2 k).2 (.inr hk))⟩, fun w' i' A' hi' hsub ha => ?_⟩
  refine ⟨wB w' ha, fun k => A' k ∨ C k, ⟨A', C, hi', gl w' ha, fun k => Iff.rfl, fun k hk hc => ?_⟩, ?_, fun p hp => (h4 p hp).step (wk w' ha) ?_⟩
  · exact g3 k (hsub k hk (g1.lt k hc)) hc
  · rintro k (hk | hk)
    · by_cases hlt : k < w.heap.size
      · exact h3 k (hAS k (hsub k hk hlt))
      · exact .inr (Nat.le_trans h1.size (by omega))
    · exact h3 k ((g2 k).2 (.inr hk))
  · rintro k (hk | hk) hlt
    · exact hAS k (hsub k hk hlt)
    · exact (g2 k).2 (.inr hk)
/-- A call that writes item i, with what is known beside it. -/
theorem Jl.callX {ι : Type} (I : ι → Prop) (val : ι → Value) (i : Item) (i' : ι → Item) {its0 : List Item} {f : FuncId} {args : Array Operand} {ts : Array TypeId} {vals : List Value} (hw : wants ops L o = some true) (hop : o.op = .call { callee := .value (.func f), args := args, argTypes := ts }) (hd : o.dst = some d) (hN : Nat.blt d N = true)
    (he : Ent P f) (hargs : evs L args.toList = some vals) (hn : OutAt i its its0)
    (hc : ∀ w A, i.p w A → (∀ W, Aft A w W → WS B W its0 ps) → Calls P f vals.toArray w fun e' w' => ∃ j, I j ∧ e' = .returned (val j) ∧ ∃ A', (i' j).p w' A' ∧ (∀ k, A' k → k < w.heap.size → A k) ∧ Aft A w w')
    (h : ∀ j, I j → Jl P N B D (k + 1) ops Q rest ((d, val j) :: L) (i' j :: its0) ps) (hD : D.takes k = false := by rfl) (hE : D.needs k = false := by rfl) : Jl P N B D k ops Q (o :: rest) L its ps := by
  obtain ⟨n, hn0, rfl⟩ := hn.at
  refine ⟨?_⟩
  intro a w hf hW
  unfold runG
  rw [if_neg (by rw [hD]; simp), if_pos (hf.wants hw)]
  have hl := hf.evs hargs
  have ha : args.map a.eval = vals.toArray := by
    apply Array.toList_inj.1
    rw [Array.toList_map]; exact hl
  have hrun : (execOp a.eval o).run P w = .ok (.enter f vals.toArray) w := by
    unfold execOp; rw [hop]
    simp [resolve, Act.eval, Deferred.ofValue, invoke, ha, he.out]
  unfold Oper.wp
  rw [hrun, Oper.upon_enter]
  obtain ⟨A, g1, g2, g3⟩ := hW.beside hn0
  refine (hc w A g1 g2).mono ?_
  rintro e' w' ⟨j, hI, rfl, A', hA', hsub, haft⟩
  refine ⟨fun h' => (by rw [hE] at h'; cases h'), ?_⟩
  rw [hd]
  exact h j hI _ _ (hf.put hN _) (g3 w' (i' j) A' hA' hsub haft)
/-- A call that hands back a row of its own whose elements lead to what is only read. -/
theorem Jl.callN {w0 : World} {P0 : Nat → Prop} (hP : ∀ k, P0 k → k < w0.heap.size) {xs : List α} {f : FuncId} {args : Array Operand} {ts : Array TypeId} {vals : List Value} (hw : wants ops L o = some true) (hop : o.op = .call { callee := .value (.func f), args := args, argTypes := ts }) (hd : o.dst = some d) (hN : Nat.blt d N = true)
    (he : Ent P f) (hargs : evs L args.toList = some vals)
    (hc : ∀ w, WS (base w0) w its ps → Calls P f vals.toArray w fun e' w' => ∃ v, e' = .returned v ∧ Kd.N dk e w' w.heap.size (fun k => P0 k ∨ w.heap.size ≤ k) v xs ∧ Below w.heap.size w w')
    (h : ∀ A c rows (ok : Nat → Prop), xs.length ≤ c → rows.length = xs.length → (xs.length = 0 ∨ ∃ g, A = some ⟨g, 0, none⟩) → (∀ k, ok k → (P0 k ∨ w0.heap.size ≤ k) ∧ some k ≠ (Value.slice A xs.length c).ownBlock) → Jl P N (base w0) D (k + 1) ops Q rest ((d, .slice A xs.length c) :: L) (.row (Kd.raw dk.sz) e 0 (.slice A xs.length c) rows :: its) ((fun W => ∀ (j : Nat) (x : α) (us : List Value), xs[j]? = some x → rows[j]? = some us → Kd.FK dk W ok x us) :: ps)) (hD : D.takes k = false := by rfl) : Jl P N (base w0) D k ops Q (o :: rest) L its ps :=
  Jl.call (ι := (Option Addr × Nat) × List (List Value) × (Nat → Prop)) (fun i => xs.length ≤ i.1.2 ∧ i.2.1.length = xs.length ∧ (xs.length = 0 ∨ ∃ g, i.1.1 = some ⟨g, 0, none⟩) ∧ ∀ k, i.2.2 k → (P0 k ∨ w0.heap.size ≤ k) ∧ some k ≠ (Value.slice i.1.1 xs.length i.1.2).ownBlock) (fun i => .slice i.1.1 xs.length i.1.2) (fun i => .row (Kd.raw dk.sz) e 0 (.slice i.1.1 xs.length i.1.2) i.2.1 :: its)
    (fun i => (fun W => ∀ (j : Nat) (x : α) (us : List Value), xs[j]? = some x → i.2.1[j]? = some us → Kd.FK dk W i.2.2 x us) :: ps) hw hop hd hN rfl he hargs (fun w hW => by
    simp only [Array.empty_append, Array.append_empty]
    refine (hc w hW).mono ?_
    rintro e' w' ⟨v, rfl, hr, hb⟩
    obtain ⟨A, c, rfl⟩ := Kd.N_slice hr
    have hcap := (Kd.N_reads' hr).2.1
    obtain ⟨g0, rows, g1, g2, g3⟩ := hr
    have hown : ∀ k, (Value.slice A xs.length c).ownBlock = some k → w.heap.size ≤ k := fun k hk => Kd.R_base g2 k hk
    have hform : xs.length = 0 ∨ ∃ g, A = some ⟨g, 0, none⟩ := by
      rcases row_form g2 with ⟨c', he, hx⟩ | ⟨g, c', he⟩
      · left; rw [← g1, hx]; rfl
      · right; injection he with he; exact ⟨g, he⟩
    refine ⟨((A, c), rows, fun k => ((P0 k ∨ w.heap.size ≤ k) ∧ some k ≠ (Value.slice A xs.length c).ownBlock) ∧ k < w'.heap.size), rfl, ⟨hcap, g1, hform, fun k hk => ⟨hk.1.1.imp id (fun h' => Nat.le_trans hW.size h'), hk.1.2⟩⟩, ?_, fun _ => hb⟩
    obtain ⟨h1, S, h2, h3, h4⟩ := hW
    have hS : ∀ k, S k → w0.heap.size ≤ k := fun k hk => (h3 k hk).resolve_left (fun h' => h')
    refine ⟨h1.trans (Aft.of_below (fun _ => False) hb) (fun k hk _ => hk), fun k => some k = (Value.slice A xs.length c).ownBlock ∨ S k, ⟨fun k => some k = (Value.slice A xs.length c).ownBlock, S, ⟨Kd.R_lower g2 (Nat.zero_le _), fun k hk => Kd.R_lt g2 k hk.symm⟩, h2.loc hb.size (fun k hk => hb.block k (h2.lt k hk)), fun k => Iff.rfl, fun k hk hs => absurd (h2.lt k hs) (Nat.not_lt.2 (hown k hk.symm))⟩, ?_, fun p hp => ?_⟩
    · rintro k (hk | hk)
      · exact .inr (Nat.le_trans h1.size (hown k hk.symm))
      · exact h3 k hk
    rcases List.mem_cons.1 hp with rfl | hp
    · intro W hWW j x us hx hu
      refine Kd.FK_step (Kd.FK_bound (g3 j x us hx hu)) (fun k hk hlt => hWW.block k hlt ?_)
      rintro (h' | h')
      · exact hk.1.2 h'
      · rcases hk.1.1 with h'' | h''
        · exact absurd (hP k h'') (Nat.not_lt.2 (hS k h'))
        · exact absurd (h2.lt k h') (Nat.not_lt.2 h'')
    · exact (h4 p hp).step (Aft.of_below S hb) (fun k hk hlt => hk.resolve_left (fun h' => absurd (hown k h'.symm) (Nat.not_le.2 hlt)))) (fun i hi => h i.1.1 i.1.2 i.2.1 i.2.2 hi.1 hi.2.1 hi.2.2.1 hi.2.2.2) hD
end
end Go.Proofs.YtblihmohgfmpgaaW.SL

namespace Go.Proofs.Ytblihmohgfmpgaa.WK
open Go Go.RowKit Go.Proofs.Ytblihmohgfmpgaa.Q Go.Proofs.YtblihmohgfmpgaaW.PrintWords Go.Proofs.YtblihmohgfmpgaaW.Pl Go.Proofs.YtblihmohgfmpgaaW.SL
set_option linter.unusedSimpArgs false
set_option linter.unusedVariables false
set_option maxRecDepth 100000
namespace Del102
theorem agg69 : AggT Try.prog 69 4 := ⟨by kernel_rfl⟩
theorem sz69 : SzT Try.prog 69 4 := ⟨by kernel_rfl⟩
theorem zero69 : ZeroT Try.prog 69 [.int .i64 0, .slice none 0 0, .int .i64 0, .int .i64 0] := ⟨by kernel_rfl⟩
theorem el25 : ElT Try.prog 25 69 4 := ⟨by kernel_rfl⟩
theorem en98 : Ent Try.prog 98 := ⟨enters_of Try.func98 (by kernel_rfl) rfl⟩
/-- What stays. -/
def kept (p : S69 → Bool) (xs : List S69) (rows : List (List Value)) (j : Nat) : List (S69 × List Value) := ((xs.zip rows).take j).filter (fun q => !p q.1)
theorem kept_len (p) (xs : List S69) (rows) (j : Nat) : (kept p xs rows j).length ≤ j := Nat.le_trans (List.length_filter_le _ _) (by rw [List.length_take]; omega)
theorem kept_succ {p : S69 → Bool} {xs : List S69} {rows : List (List Value)} {j : Nat} {x : S69} {u : List Value} (hx : xs[j]? = some x) (hu : rows[j]? = some u) : kept p xs rows (j + 1) = kept p xs rows j ++ (if p x = true then [] else [(x, u)]) := by
  unfold kept
  have hz : (xs.zip rows)[j]? = some (x, u) := by rw [List.getElem?_zip_eq_some]; exact ⟨hx, hu⟩
  rw [List.take_add_one, hz, List.filter_append]
  cases hp : p x <;> simp [hp]
theorem kept_all {p : S69 → Bool} {xs : List S69} {rows : List (List Value)} (h : ∀ x, x ∈ xs → p x = false) (j : Nat) : kept p xs rows j = (xs.zip rows).take j := by
  unfold kept
  rw [List.filter_eq_self]
  intro q hq
  have := h q.1 (List.of_mem_zip (List.mem_of_mem_take hq)).1
  simp [this]
theorem idx_cases (p : S69 → Bool) (xs : List S69) : (idx p xs = -1 ∧ ∀ x, x ∈ xs → p x = false) ∨ ∃ (i : Nat) (x : S69), xs[i]? = some x ∧ idx p xs = (i : Int) ∧ p x = true ∧ ∀ y, y ∈ xs.take i → p y = false := by
  unfold idx
  cases h : xs.findIdx? p with
  | none => exact .inl ⟨rfl, by simpa using h⟩
  | some i =>
    rw [List.findIdx?_eq_some_iff_getElem] at h
    obtain ⟨h1, h2, h3⟩ := h
    refine .inr ⟨i, xs[i], List.getElem?_eq_getElem h1, rfl, h2, fun y hy => ?_⟩
    obtain ⟨j, hj, rfl⟩ := List.mem_iff_getElem.1 hy
    have hj' : j < i := by rw [List.length_take] at hj; omega
    rw [List.getElem_take]
    simpa using h3 j hj'
set_option maxHeartbeats 8000000 in
theorem run (g : Nat) (lb : Array Value) (eg : Ent Try.prog g) (p : S69 → Bool) (w0 : World) (h c : Nat) (rows : List (List Value)) (xs : List S69) (cs : List Value)
    (hh : w0.heap[h]? = some (.cells cs.toArray 69 (0, 0))) (hcl : cs.length = c * 4) (hl : rows.length = xs.length) (hnc : xs.length ≤ c) (hcx : c ≤ maxLen)
    (hr : ∀ j us, rows[j]? = some us → rowOf 4 cs j = us ∧ us.length = 4 ∧ ∀ u ∈ us, u.oneCell' = true)
    (hK : ∀ W, Aft (fun k => k = h) w0 W → ∀ (j : Nat) x us, xs[j]? = some x → rows[j]? = some us → k69.K W x us)
    (hC : ∀ W, Aft (fun k => k = h) w0 W → ∀ x, x ∈ xs → ∀ us, k69.K W x us → Calls Try.prog g (#[.agg us.toArray] ++ lb) W fun e W' => e = .returned (.bool (p x)) ∧ Below W.heap.size W W') :
    Calls Try.prog 102 #[.slice (some ⟨h, 0, none⟩) xs.length c, .func (.func g) #[] lb] w0 fun e w' => e = .returned (.slice (some ⟨h, 0, none⟩) (kept p xs rows xs.length).length c) ∧ ∃ cs' : List Value, cs'.length = c * 4 ∧ w'.heap[h]? = some (.cells cs'.toArray 69 (0, 0)) ∧ (∀ j us, ((kept p xs rows xs.length).map (·.2))[j]? = some us → rowOf 4 cs' j = us) ∧ Aft (fun k => k = h) w0 w' := by
  let Rr : Ending → World → Prop := fun e w' => e = .returned (.slice (some ⟨h, 0, none⟩) (kept p xs rows xs.length).length c) ∧ ∃ cs' : List Value, cs'.length = c * 4 ∧ w'.heap[h]? = some (.cells cs'.toArray 69 (0, 0)) ∧ (∀ j us, ((kept p xs rows xs.length).map (·.2))[j]? = some us → rowOf 4 cs' j = us) ∧ Aft (fun k => k = h) w0 w'
  let pK : World → Prop := fun W => ∀ (j : Nat) x us, xs[j]? = some x → rows[j]? = some us → k69.K W x us
  let pC : World → Prop := fun W => ∀ x, x ∈ xs → ∀ us, k69.K W x us → Calls Try.prog g (#[.agg us.toArray] ++ lb) W fun e W' => e = .returned (.bool (p x)) ∧ Below W.heap.size W W'
  have hmx : c ≤ 9223372036854775807 := hcx
  refine enterS (S := fun k => k = h) (args := [.slice (some ⟨h, 0, none⟩) xs.length c, .func (.func g) #[] lb]) [.box h 69 cs] [pK, pC] (Own.single ⟨hh, fun k => Iff.rfl⟩) (fun q hq => by
    rcases List.mem_cons.1 hq with rfl | hq
    · exact fun W hW => hK W hW
    · rw [List.mem_singleton.1 hq]; exact fun W hW => hC W hW) Try.func102 rfl rfl ?_
  have index_ : ∀ w, WS ⟨w0, fun k => k = h⟩ w [.box h 69 cs] [pK, pC] → Calls Try.prog 98 [.slice (some ⟨h, 0, none⟩) xs.length c, .func (.func g) #[] lb].toArray w fun e w' => e = .returned (.int .i64 (idx p xs)) ∧ Below w.heap.size w w' := fun w hW => by
    have hg := Box_at hW (List.mem_cons_self)
    have hR := box_raw (b := 0) (ok := fun _ => True) hg hcl (Nat.zero_le _) hl hnc hcx trivial hr
    have hCr := C_of_rows (dk := k69) ((Kd.R_reads' hR).2.2) hl (hW.at 0 rfl)
    rw [hl] at hCr
    exact idx_98 g lb eg.out p _ c xs w hCr (fun x hx W us hb hk => (hW.call hb).at 1 rfl x hx us hk)
  show Cj Try.prog _ _ _ (bodyPost Try.prog Try.f102 Rr) _ _ _
  rcases idx_cases p xs with ⟨e1, e2⟩ | ⟨i0, x0, hx0, e1, e2, e3⟩
  · rw [e1] at index_
    repeat (first
    | (apply gateO; first
      | refine Jl.yd (Y.mv rfl rfl) rfl rfl rfl ?_
      | refine Jl.yd (Y.asg rfl rfl) rfl rfl rfl ?_
      | refine Jl.yd (Y.ext rfl rfl rfl) rfl rfl rfl ?_
      | refine Jl.yd (Y.pickT rfl rfl rfl) rfl rfl rfl ?_
      | refine Jl.yd (Y.pickF rfl rfl rfl) rfl rfl rfl ?_
      | refine Jl.off rfl rfl rfl ?_
      | refine Jl.yd (Y.cmpF rfl rfl rfl rfl (by omega)) rfl rfl rfl ?_
      | refine Jl.yd (Y.cmpT rfl rfl rfl rfl (by omega)) rfl rfl rfl ?_
      | refine Jl.yd (Y.neqB rfl rfl rfl Try.underlying4) rfl rfl rfl ?_
      | refine Jl.yd (Y.cmp rfl rfl rfl rfl) rfl rfl rfl ?_
      | refine Jl.yd (Y.not rfl rfl) rfl rfl rfl ?_
      | refine Jl.yd (Y.arithN rfl rfl rfl rfl (by omega)) rfl rfl rfl ?_
      | refine Jl.yd (Y.arith64 rfl rfl rfl rfl) rfl rfl rfl ?_
      | refine Jl.yd (Y.lenS Try.underlying25 rfl rfl rfl) rfl rfl rfl ?_
      | refine Jl.call1 (v := .int .i64 (-1)) rfl rfl rfl rfl en98 rfl (fun w hW => index_ w hW) ?_
      | refine Jl.splitG rfl rfl (fun h => ?_) (fun h => ?_))
    | (apply gateE; first
      | refine Jl.nil (Ej.go ?_ (fun _ _ h => h))
      | (refine Jl.nil (Ej.back (fun _ _ h => h) (by repeat (first | exact .refl | apply DropTo.tail)) ?_); repeat (first | exact trivial | refine ⟨rfl, ?_⟩)))
    | (apply gateC; first
      | refine Cj.ret rfl (Ej.out1 (P := Try.prog) (fn := Try.f102) (R := Rr) (fun _ _ h => h) rfl rfl (fun w' hW => ?_))
      | refine Cj.condF rfl rfl (Cj.skip rfl (Ej.go ?_ (fun _ _ h => h)))
      | (refine Cj.condF rfl rfl (Cj.skip rfl (Ej.back (fun _ _ h => h) (by repeat (first | exact .refl | apply DropTo.tail)) ?_)); repeat (first | exact trivial | refine ⟨rfl, ?_⟩))
      | refine Cj.condF rfl rfl ?_
      | refine Cj.condT rfl rfl ?_
      | refine Cj.exit rfl (Ej.go ?_ (fun _ _ h => h))
      | refine Cj.cond rfl rfl (fun h => ?_) (fun h => ?_)
      | refine Cj.skip rfl (Ej.go ?_ (fun _ _ h => h))
      | (refine Cj.skip rfl (Ej.back (fun _ _ h => h) (by repeat (first | exact .refl | apply DropTo.tail)) ?_); repeat (first | exact trivial | refine ⟨rfl, ?_⟩))
      | refine Cj.seq rfl ?_
      | refine Cj.region rfl ?_))
    have hka := kept_all (rows := rows) e2 xs.length
    have hzl : (xs.zip rows).length = xs.length := by rw [List.length_zip]; omega
    have hkl : (kept p xs rows xs.length).length = xs.length := by rw [hka, List.length_take, hzl]; omega
    refine ⟨by rw [hkl], cs, hcl, Box_at hW (List.mem_cons_self), fun j us hj => ?_, hW.aft⟩
    rw [hka, List.take_of_length_le (by omega), List.map_snd_zip (by omega)] at hj
    exact (hr j us hj).1
  · rw [e1] at index_
    have hi0 : i0 < xs.length := (List.getElem?_eq_some_iff.1 hx0).1
    repeat (first
    | (apply gateO; first
      | refine Jl.yd (Y.mv rfl rfl) rfl rfl rfl ?_
      | refine Jl.yd (Y.asg rfl rfl) rfl rfl rfl ?_
      | refine Jl.yd (Y.ext rfl rfl rfl) rfl rfl rfl ?_
      | refine Jl.yd (Y.pickT rfl rfl rfl) rfl rfl rfl ?_
      | refine Jl.yd (Y.pickF rfl rfl rfl) rfl rfl rfl ?_
      | refine Jl.off rfl rfl rfl ?_
      | refine Jl.yd (Y.cmpF rfl rfl rfl rfl (by omega)) rfl rfl rfl ?_
      | refine Jl.yd (Y.cmpT rfl rfl rfl rfl (by omega)) rfl rfl rfl ?_
      | refine Jl.yd (Y.neqB rfl rfl rfl Try.underlying4) rfl rfl rfl ?_
      | refine Jl.yd (Y.cmp rfl rfl rfl rfl) rfl rfl rfl ?_
      | refine Jl.yd (Y.not rfl rfl) rfl rfl rfl ?_
      | refine Jl.yd (Y.arithN rfl rfl rfl rfl (by omega)) rfl rfl rfl ?_
      | refine Jl.yd (Y.arith64 rfl rfl rfl rfl) rfl rfl rfl ?_
      | refine Jl.yd (Y.lenS Try.underlying25 rfl rfl rfl) rfl rfl rfl ?_
      | refine Jl.call1 (v := .int .i64 (i0 : Int)) rfl rfl rfl rfl en98 rfl (fun w hW => index_ w hW) ?_
      | refine Jl.splitG rfl rfl (fun h => ?_) (fun h => ?_))
    | (apply gateE; first
      | refine Jl.nil (Ej.go ?_ (fun _ _ h => h))
      | (refine Jl.nil (Ej.back (fun _ _ h => h) (by repeat (first | exact .refl | apply DropTo.tail)) ?_); repeat (first | exact trivial | refine ⟨rfl, ?_⟩)))
    | (apply gateC; first
      | refine Cj.ret rfl (Ej.out1 (P := Try.prog) (fn := Try.f102) (R := Rr) (fun _ _ h => h) rfl rfl (fun w' hW => ?_))
      | refine Cj.condF rfl rfl (Cj.skip rfl (Ej.go ?_ (fun _ _ h => h)))
      | (refine Cj.condF rfl rfl (Cj.skip rfl (Ej.back (fun _ _ h => h) (by repeat (first | exact .refl | apply DropTo.tail)) ?_)); repeat (first | exact trivial | refine ⟨rfl, ?_⟩))
      | refine Cj.condF rfl rfl ?_
      | refine Cj.condT rfl rfl ?_
      | refine Cj.exit rfl (Ej.go ?_ (fun _ _ h => h))
      | refine Cj.cond rfl rfl (fun h => ?_) (fun h => ?_)
      | refine Cj.skip rfl (Ej.go ?_ (fun _ _ h => h))
      | (refine Cj.skip rfl (Ej.back (fun _ _ h => h) (by repeat (first | exact .refl | apply DropTo.tail)) ?_); repeat (first | exact trivial | refine ⟨rfl, ?_⟩))
      | refine Cj.seq rfl ?_
      | refine Cj.region rfl ?_))
    refine Cj.block rfl ?_
    refine Cj.loop (ι := (Nat × Nat) × List Value) (fun q => q.1.1 = (kept p xs rows q.1.2).length ∧ q.1.1 < q.1.2 ∧ q.1.2 ≤ xs.length ∧ q.2.length = cs.length ∧ (∀ t us, ((kept p xs rows q.1.2).map (·.2))[t]? = some us → rowOf 4 q.2 t = us) ∧ (∀ t, q.1.2 ≤ t → t < xs.length → rowOf 4 q.2 t = rowOf 4 cs t))
      (fun q => [(0, .slice (some ⟨h, 0, none⟩) xs.length c), (1, .func (.func g) #[] lb), (5, .int .i64 (q.1.1 : Int)), (6, .int .i64 (q.1.2 : Int))]) (fun q => [.box h 69 q.2]) (fun _ => [pK, pC]) (fun q => xs.length - q.1.2) rfl ((i0, i0 + 1), cs) ?start ⟨rfl, rfl, rfl, ?_, trivial⟩ rfl (fun p hp => hp) (fun q hq => ?_)
    case start =>
      have hk0 : kept p xs rows (i0 + 1) = (xs.zip rows).take i0 := by
        rw [kept_succ hx0 (List.getElem?_eq_getElem (by omega)), if_pos e2, List.append_nil]
        unfold kept
        rw [List.filter_eq_self]
        intro q hq
        obtain ⟨t, ht, rfl⟩ := List.mem_iff_getElem.1 hq
        rw [List.length_take, List.length_zip] at ht
        have := e3 (xs[t]'(by omega)) (List.mem_iff_getElem.2 ⟨t, by rw [List.length_take]; omega, List.getElem_take⟩)
        rw [List.getElem_take, List.getElem_zip]
        simp [this]
      refine ⟨?_, by dsimp only; omega, by dsimp only; omega, rfl, fun t us ht => ?_, fun t _ _ => rfl⟩
      · dsimp only
        rw [hk0, List.length_take, List.length_zip]; omega
      · dsimp only at ht ⊢
        rw [hk0, List.map_take, List.map_snd_zip (by omega), List.getElem?_take] at ht
        split at ht
        · exact (hr t us ht).1
        · cases ht
    · show some (Value.int .i64 ((i0 : Int) + 1)) = some (.int .i64 ((i0 + 1 : Nat) : Int))
      rfl
    obtain ⟨⟨i, j⟩, cs'⟩ := q
    obtain ⟨h1, h2, h3, h4, h5, h6⟩ := hq
    dsimp only at h1 h2 h3 h4 h5 h6 ⊢
    by_cases hlt : j < xs.length
    · obtain ⟨x, hxj⟩ : ∃ x, xs[j]? = some x := ⟨_, List.getElem?_eq_getElem hlt⟩
      obtain ⟨u, huj⟩ : ∃ u, rows[j]? = some u := ⟨_, List.getElem?_eq_getElem (by omega)⟩
      obtain ⟨hru, hul, huo⟩ := hr j u huj
      have hrow : rowOf 4 cs' j = u := (h6 j (Nat.le_refl _) hlt).trans hru
      have hub : Nat.beq u.length 4 = true := by rw [hul]; rfl
      have hoff : ((i : Int)).toNat * 4 + u.length ≤ cs'.length := by rw [Int.toNat_natCast]; omega
      have hks := kept_succ (p := p) hxj huj
      cases hp : p x with
      | true =>
        rw [if_pos hp, List.append_nil] at hks
        have close_ : ∀ w its, WS ⟨w0, fun k => k = h⟩ w its [pK, pC] → Calls Try.prog g (#[] ++ [.agg u.toArray].toArray ++ lb) w fun e w' => e = .returned (.bool true) ∧ Below w.heap.size w w' := fun w its hW => by
          have := hW.at 1 rfl x (List.mem_of_getElem? hxj) u (hW.at 0 rfl j x u hxj huj)
          rw [hp] at this
          rw [Array.empty_append]
          exact this
        repeat (first
    | (apply gateO; first
      | refine Jl.yd (Y.mv rfl rfl) rfl rfl rfl ?_
      | refine Jl.yd (Y.asg rfl rfl) rfl rfl rfl ?_
      | refine Jl.yd (Y.ext rfl rfl rfl) rfl rfl rfl ?_
      | refine Jl.yd (Y.pickT rfl rfl rfl) rfl rfl rfl ?_
      | refine Jl.yd (Y.pickF rfl rfl rfl) rfl rfl rfl ?_
      | refine Jl.off rfl rfl rfl ?_
      | refine Jl.yd (Y.cmpF rfl rfl rfl rfl (by omega)) rfl rfl rfl ?_
      | refine Jl.yd (Y.cmpT rfl rfl rfl rfl (by omega)) rfl rfl rfl ?_
      | refine Jl.yd (Y.neqB rfl rfl rfl Try.underlying4) rfl rfl rfl ?_
      | refine Jl.yd (Y.cmp rfl rfl rfl rfl) rfl rfl rfl ?_
      | refine Jl.yd (Y.not rfl rfl) rfl rfl rfl ?_
      | refine Jl.yd (Y.arithN rfl rfl rfl rfl (by omega)) rfl rfl rfl ?_
      | refine Jl.yd (Y.arith64 rfl rfl rfl rfl) rfl rfl rfl ?_
      | refine Jl.alloc rfl rfl rfl rfl zero69 (fun g => ?_)
      | refine Jl.yd (Y.lenS Try.underlying25 rfl rfl rfl) rfl rfl rfl ?_
      | refine Jl.yd (Y.idx0 rfl rfl rfl el25 (by omega) (by omega)) rfl rfl rfl ?_
      | refine Jl.yd (Y.loadE (u := u) rfl rfl agg69 (by repeat (first | exact .head _ | refine .tail _ ?_)) hrow hul) rfl rfl rfl ?_
      | refine Jl.yd (Y.loadA rfl rfl agg69 (by repeat (first | exact .head _ | refine .tail _ ?_)) hub) rfl rfl rfl ?_
      | refine Jl.storeW (us := u) rfl rfl rfl rfl rfl sz69 (by repeat (first | exact .z | apply SetAt.s)) hul (by rfl) huo ?_
      | refine Jl.storeB (us := u) rfl rfl rfl rfl rfl sz69 (by repeat (first | exact .z | apply SetAt.s)) hul hoff huo ?_
      | refine Jl.callc (v := .bool true) rfl rfl rfl rfl rfl eg rfl (fun w hW => close_ w _ hW) ?_
      | refine Jl.splitG rfl rfl (fun h => ?_) (fun h => ?_))
    | (apply gateE; first
      | refine Jl.nil (Ej.go ?_ (fun _ _ h => h))
      | (refine Jl.nil (Ej.back (fun _ _ h => h) (by repeat (first | exact .refl | apply DropTo.tail)) ?_); repeat (first | exact trivial | refine ⟨rfl, ?_⟩)))
    | (apply gateC; first
      | refine Cj.block rfl ?_
      | refine Cj.condF rfl rfl (Cj.skip rfl (Ej.go ?_ (fun _ _ h => h)))
      | (refine Cj.condF rfl rfl (Cj.skip rfl (Ej.back (fun _ _ h => h) (by repeat (first | exact .refl | apply DropTo.tail)) ?_)); repeat (first | exact trivial | refine ⟨rfl, ?_⟩))
      | refine Cj.condF rfl rfl ?_
      | refine Cj.condT rfl rfl ?_
      | refine Cj.exit rfl (Ej.go ?_ (fun _ _ h => h))
      | refine Cj.cond rfl rfl (fun h => ?_) (fun h => ?_)
      | refine Cj.skip rfl (Ej.go ?_ (fun _ _ h => h))
      | (refine Cj.skip rfl (Ej.back (fun _ _ h => h) (by repeat (first | exact .refl | apply DropTo.tail)) ?_); repeat (first | exact trivial | refine ⟨rfl, ?_⟩))
      | refine Cj.seq rfl ?_
      | refine Cj.region rfl ?_))
        refine Jl.nil (Ej.ws (ι := Unit) (fun _ => True) (fun _ => [.box h 69 cs']) (fun _ => [pK, pC]) (fun w hW => ⟨(), trivial, hW.drop (n := 0) rfl⟩) (fun _ _ => ?_))
        refine Ej.cut (ι := (Nat × Nat) × List Value) _ _ _ _ (fun _ _ h => h) ((i, j + 1), cs') ⟨?_, by dsimp only; omega⟩ ⟨rfl, rfl, rfl, rfl, trivial⟩ rfl (fun p hp => hp)
        dsimp only
        rw [hks]
        exact ⟨h1, by omega, by omega, h4, h5, fun t g1 g2 => h6 t (by omega) g2⟩
      | false =>
        rw [if_neg (by rw [hp]; simp)] at hks
        have close_ : ∀ w its, WS ⟨w0, fun k => k = h⟩ w its [pK, pC] → Calls Try.prog g (#[] ++ [.agg u.toArray].toArray ++ lb) w fun e w' => e = .returned (.bool false) ∧ Below w.heap.size w w' := fun w its hW => by
          have := hW.at 1 rfl x (List.mem_of_getElem? hxj) u (hW.at 0 rfl j x u hxj huj)
          rw [hp] at this
          rw [Array.empty_append]
          exact this
        repeat (first
    | (apply gateO; first
      | refine Jl.yd (Y.mv rfl rfl) rfl rfl rfl ?_
      | refine Jl.yd (Y.asg rfl rfl) rfl rfl rfl ?_
      | refine Jl.yd (Y.ext rfl rfl rfl) rfl rfl rfl ?_
      | refine Jl.yd (Y.pickT rfl rfl rfl) rfl rfl rfl ?_
      | refine Jl.yd (Y.pickF rfl rfl rfl) rfl rfl rfl ?_
      | refine Jl.off rfl rfl rfl ?_
      | refine Jl.yd (Y.cmpF rfl rfl rfl rfl (by omega)) rfl rfl rfl ?_
      | refine Jl.yd (Y.cmpT rfl rfl rfl rfl (by omega)) rfl rfl rfl ?_
      | refine Jl.yd (Y.neqB rfl rfl rfl Try.underlying4) rfl rfl rfl ?_
      | refine Jl.yd (Y.cmp rfl rfl rfl rfl) rfl rfl rfl ?_
      | refine Jl.yd (Y.not rfl rfl) rfl rfl rfl ?_
      | refine Jl.yd (Y.arithN rfl rfl rfl rfl (by omega)) rfl rfl rfl ?_
      | refine Jl.yd (Y.arith64 rfl rfl rfl rfl) rfl rfl rfl ?_
      | refine Jl.alloc rfl rfl rfl rfl zero69 (fun g => ?_)
      | refine Jl.yd (Y.lenS Try.underlying25 rfl rfl rfl) rfl rfl rfl ?_
      | refine Jl.yd (Y.idx0 rfl rfl rfl el25 (by omega) (by omega)) rfl rfl rfl ?_
      | refine Jl.yd (Y.loadE (u := u) rfl rfl agg69 (by repeat (first | exact .head _ | refine .tail _ ?_)) hrow hul) rfl rfl rfl ?_
      | refine Jl.yd (Y.loadA rfl rfl agg69 (by repeat (first | exact .head _ | refine .tail _ ?_)) hub) rfl rfl rfl ?_
      | refine Jl.storeW (us := u) rfl rfl rfl rfl rfl sz69 (by repeat (first | exact .z | apply SetAt.s)) hul (by rfl) huo ?_
      | refine Jl.storeB (us := u) rfl rfl rfl rfl rfl sz69 (by repeat (first | exact .z | apply SetAt.s)) hul hoff huo ?_
      | refine Jl.callc (v := .bool false) rfl rfl rfl rfl rfl eg rfl (fun w hW => close_ w _ hW) ?_
      | refine Jl.splitG rfl rfl (fun h => ?_) (fun h => ?_))
    | (apply gateE; first
      | refine Jl.nil (Ej.go ?_ (fun _ _ h => h))
      | (refine Jl.nil (Ej.back (fun _ _ h => h) (by repeat (first | exact .refl | apply DropTo.tail)) ?_); repeat (first | exact trivial | refine ⟨rfl, ?_⟩)))
    | (apply gateC; first
      | refine Cj.block rfl ?_
      | refine Cj.condF rfl rfl (Cj.skip rfl (Ej.go ?_ (fun _ _ h => h)))
      | (refine Cj.condF rfl rfl (Cj.skip rfl (Ej.back (fun _ _ h => h) (by repeat (first | exact .refl | apply DropTo.tail)) ?_)); repeat (first | exact trivial | refine ⟨rfl, ?_⟩))
      | refine Cj.condF rfl rfl ?_
      | refine Cj.condT rfl rfl ?_
      | refine Cj.exit rfl (Ej.go ?_ (fun _ _ h => h))
      | refine Cj.cond rfl rfl (fun h => ?_) (fun h => ?_)
      | refine Cj.skip rfl (Ej.go ?_ (fun _ _ h => h))
      | (refine Cj.skip rfl (Ej.back (fun _ _ h => h) (by repeat (first | exact .refl | apply DropTo.tail)) ?_); repeat (first | exact trivial | refine ⟨rfl, ?_⟩))
      | refine Cj.seq rfl ?_
      | refine Cj.region rfl ?_))
        refine Jl.nil (Ej.ws (ι := Unit) (fun _ => True) (fun _ => [.box h 69 (wr cs' ((i : Int).toNat * 4) u)]) (fun _ => [pK, pC]) (fun w hW => ⟨(), trivial, hW.drop (n := 0) rfl⟩) (fun _ _ => ?_))
        refine Ej.cut (ι := (Nat × Nat) × List Value) _ _ _ _ (fun _ _ h => h) ((i + 1, j + 1), (wr cs' ((i : Int).toNat * 4) u)) ⟨?_, by dsimp only; omega⟩ ⟨rfl, rfl, rfl, rfl, trivial⟩ rfl (fun p hp => hp)
        dsimp only
        rw [Int.toNat_natCast] at hoff ⊢
        rw [hks]
        refine ⟨by rw [List.length_append, ← h1]; rfl, by omega, by omega, by rw [wr_length hoff]; exact h4, fun t us ht => ?_, fun t g1 g2 => ?_⟩
        · rw [List.map_append] at ht
          rcases Nat.lt_trichotomy t i with ht' | ht' | ht'
          · rw [List.getElem?_append_left (by rw [List.length_map, ← h1]; exact ht')] at ht
            rw [rowOf_wr_lt hoff ht']
            exact h5 t us ht
          · subst ht'
            rw [List.getElem?_append_right (by rw [List.length_map, ← h1]; exact Nat.le_refl _), List.length_map, ← h1, Nat.sub_self] at ht
            obtain rfl : u = us := by simpa using ht
            exact rowOf_wr_eq hul (by omega)
          · rw [List.getElem?_eq_none (by rw [List.length_append, List.length_map, ← h1]; simp; omega)] at ht
            cases ht
        · rw [rowOf_wr_gt hoff (by omega) (by omega)]
          exact h6 t (by omega) g2
    · obtain rfl : j = xs.length := by omega
      have hclr : ((i : Int)).toNat * 4 + (xs.length - ((i : Int)).toNat) * 4 ≤ cs'.length := by rw [Int.toNat_natCast]; omega
      repeat (first
    | (apply gateO; first
      | refine Jl.yd (Y.mv rfl rfl) rfl rfl rfl ?_
      | refine Jl.yd (Y.asg rfl rfl) rfl rfl rfl ?_
      | refine Jl.yd (Y.ext rfl rfl rfl) rfl rfl rfl ?_
      | refine Jl.yd (Y.pickT rfl rfl rfl) rfl rfl rfl ?_
      | refine Jl.yd (Y.pickF rfl rfl rfl) rfl rfl rfl ?_
      | refine Jl.off rfl rfl rfl ?_
      | refine Jl.yd (Y.cmpF rfl rfl rfl rfl (by omega)) rfl rfl rfl ?_
      | refine Jl.yd (Y.cmpT rfl rfl rfl rfl (by omega)) rfl rfl rfl ?_
      | refine Jl.yd (Y.neqB rfl rfl rfl Try.underlying4) rfl rfl rfl ?_
      | refine Jl.yd (Y.cmp rfl rfl rfl rfl) rfl rfl rfl ?_
      | refine Jl.yd (Y.not rfl rfl) rfl rfl rfl ?_
      | refine Jl.yd (Y.arithN rfl rfl rfl rfl (by omega)) rfl rfl rfl ?_
      | refine Jl.yd (Y.arith64 rfl rfl rfl rfl) rfl rfl rfl ?_
      | refine Jl.yd (Y.lenS Try.underlying25 rfl rfl rfl) rfl rfl rfl ?_
      | refine Jl.yd (Y.idx0 rfl rfl rfl el25 (by omega) (by omega)) rfl rfl rfl ?_
      | refine Jl.yd (Y.sliceL rfl rfl rfl el25 (by omega) (by omega) (by omega)) rfl rfl rfl ?_
      | refine Jl.yd (Y.sliceH rfl rfl rfl el25 (by omega) (by omega)) rfl rfl rfl ?_
      | refine Jl.clearB rfl rfl rfl rfl rfl el25 zero69 (by rfl) (by rfl) (by repeat (first | exact .head _ | refine .tail _ ?_)) hclr (by omega) (fun cs' => (by repeat (first | exact .z | apply SetAt.s))) (fun cs2 hl2 hp2 => ?_)
      | refine Jl.splitG rfl rfl (fun h => ?_) (fun h => ?_))
    | (apply gateE; first
      | refine Jl.nil (Ej.go ?_ (fun _ _ h => h))
      | (refine Jl.nil (Ej.back (fun _ _ h => h) (by repeat (first | exact .refl | apply DropTo.tail)) ?_); repeat (first | exact trivial | refine ⟨rfl, ?_⟩)))
    | (apply gateC; first
      | refine Cj.ret rfl (Ej.out1 (P := Try.prog) (fn := Try.f102) (R := Rr) (fun _ _ h => h) rfl rfl (fun w' hW => ?_))
      | refine Cj.condF rfl rfl (Cj.skip rfl (Ej.go ?_ (fun _ _ h => h)))
      | (refine Cj.condF rfl rfl (Cj.skip rfl (Ej.back (fun _ _ h => h) (by repeat (first | exact .refl | apply DropTo.tail)) ?_)); repeat (first | exact trivial | refine ⟨rfl, ?_⟩))
      | refine Cj.condF rfl rfl ?_
      | refine Cj.condT rfl rfl ?_
      | refine Cj.exit rfl (Ej.go ?_ (fun _ _ h => h))
      | refine Cj.cond rfl rfl (fun h => ?_) (fun h => ?_)
      | refine Cj.skip rfl (Ej.go ?_ (fun _ _ h => h))
      | (refine Cj.skip rfl (Ej.back (fun _ _ h => h) (by repeat (first | exact .refl | apply DropTo.tail)) ?_); repeat (first | exact trivial | refine ⟨rfl, ?_⟩))
      | refine Cj.seq rfl ?_
      | refine Cj.region rfl ?_))
      have hki := kept_len p xs rows xs.length
      refine ⟨by rw [Int.toNat_natCast, h1], cs2, by omega, Box_at hW (List.mem_cons_self), fun t us ht => ?_, hW.aft⟩
      have htl : t < i := by have := (List.getElem?_eq_some_iff.1 ht).1; rw [List.length_map] at this; omega
      rw [← h5 t us ht]
      refine rowOf_ext fun k hk => hp2 _ ?_
      have := mul_lt_step (sz := 4) htl
      rw [Int.toNat_natCast]
      omega
set_option maxHeartbeats 1000000 in
theorem run0 (g : Nat) (lb : Array Value) (eg : Ent Try.prog g) (p : S69 → Bool) (w0 : World) (c : Nat) : Calls Try.prog 102 #[.slice none 0 c, .func (.func g) #[] lb] w0 fun e w' => e = .returned (.slice none 0 c) ∧ Below w0.heap.size w0 w' := by
  let Rr : Ending → World → Prop := fun e w' => e = .returned (.slice none 0 c) ∧ Below w0.heap.size w0 w'
  have index_ : ∀ w, WS (base w0) w [] [] → Calls Try.prog 98 [.slice none 0 c, .func (.func g) #[] lb].toArray w fun e w' => e = .returned (.int .i64 (-1)) ∧ Below w.heap.size w w' := fun w hW =>
    idx_98 g lb eg.out p none c [] w ⟨rfl, Nat.zero_le _, fun h => absurd h (Nat.lt_irrefl _)⟩ (fun x hx => by cases hx)
  refine enterW (args := [.slice none 0 c, .func (.func g) #[] lb]) [] (fun q hq => by cases hq) Try.func102 rfl rfl ?_
  show Cj Try.prog _ _ _ (bodyPost Try.prog Try.f102 Rr) _ _ _
  repeat (first
    | (apply gateO; first
      | refine Jl.yd (Y.mv rfl rfl) rfl rfl rfl ?_
      | refine Jl.yd (Y.asg rfl rfl) rfl rfl rfl ?_
      | refine Jl.yd (Y.ext rfl rfl rfl) rfl rfl rfl ?_
      | refine Jl.yd (Y.pickT rfl rfl rfl) rfl rfl rfl ?_
      | refine Jl.yd (Y.pickF rfl rfl rfl) rfl rfl rfl ?_
      | refine Jl.off rfl rfl rfl ?_
      | refine Jl.yd (Y.cmpF rfl rfl rfl rfl (by omega)) rfl rfl rfl ?_
      | refine Jl.yd (Y.cmpT rfl rfl rfl rfl (by omega)) rfl rfl rfl ?_
      | refine Jl.yd (Y.neqB rfl rfl rfl Try.underlying4) rfl rfl rfl ?_
      | refine Jl.yd (Y.cmp rfl rfl rfl rfl) rfl rfl rfl ?_
      | refine Jl.yd (Y.not rfl rfl) rfl rfl rfl ?_
      | refine Jl.yd (Y.arithN rfl rfl rfl rfl (by omega)) rfl rfl rfl ?_
      | refine Jl.yd (Y.arith64 rfl rfl rfl rfl) rfl rfl rfl ?_
      | refine Jl.yd (Y.lenS Try.underlying25 rfl rfl rfl) rfl rfl rfl ?_
      | refine Jl.call1 (v := .int .i64 (-1)) rfl rfl rfl rfl en98 rfl (fun w hW => index_ w hW) ?_
      | refine Jl.splitG rfl rfl (fun h => ?_) (fun h => ?_))
    | (apply gateE; first
      | refine Jl.nil (Ej.go ?_ (fun _ _ h => h))
      | (refine Jl.nil (Ej.back (fun _ _ h => h) (by repeat (first | exact .refl | apply DropTo.tail)) ?_); repeat (first | exact trivial | refine ⟨rfl, ?_⟩)))
    | (apply gateC; first
      | refine Cj.ret rfl (Ej.out1 (P := Try.prog) (fn := Try.f102) (R := Rr) (fun _ _ h => h) rfl rfl (fun w' hW => ?_))
      | refine Cj.condF rfl rfl (Cj.skip rfl (Ej.go ?_ (fun _ _ h => h)))
      | (refine Cj.condF rfl rfl (Cj.skip rfl (Ej.back (fun _ _ h => h) (by repeat (first | exact .refl | apply DropTo.tail)) ?_)); repeat (first | exact trivial | refine ⟨rfl, ?_⟩))
      | refine Cj.condF rfl rfl ?_
      | refine Cj.condT rfl rfl ?_
      | refine Cj.exit rfl (Ej.go ?_ (fun _ _ h => h))
      | refine Cj.cond rfl rfl (fun h => ?_) (fun h => ?_)
      | refine Cj.skip rfl (Ej.go ?_ (fun _ _ h => h))
      | (refine Cj.skip rfl (Ej.back (fun _ _ h => h) (by repeat (first | exact .refl | apply DropTo.tail)) ?_); repeat (first | exact trivial | refine ⟨rfl, ?_⟩))
      | refine Cj.seq rfl ?_
      | refine Cj.region rfl ?_))
  exact ⟨rfl, hW.below⟩
/-- slices.DeleteFunc at a row of one's own: what stays is at its head. -/
theorem calls (g : Nat) (lb : Array Value) (eg : Ent Try.prog g) (p : S69 → Bool) (w : World) (A : Nat → Prop) (v : Value) (rows : List (List Value)) (xs : List S69) (hl : rows.length = xs.length)
    (hA : (Item.row (Kd.raw 4) 69 0 v rows).p w A)
    (hK : ∀ W, Aft A w W → ∀ (j : Nat) x us, xs[j]? = some x → rows[j]? = some us → k69.K W x us)
    (hC : ∀ W, Aft A w W → ∀ x, x ∈ xs → ∀ us, k69.K W x us → Calls Try.prog g (#[.agg us.toArray] ++ lb) W fun e W' => e = .returned (.bool (p x)) ∧ Below W.heap.size W W') :
    Calls Try.prog 102 #[v, .func (.func g) #[] lb] w fun e w' => ∃ v', e = .returned v' ∧ (∀ k, v'.ownBlock = some k → v.ownBlock = some k) ∧ ∃ A', (Item.row (Kd.raw 4) 69 0 v' ((kept p xs rows xs.length).map (·.2))).p w' A' ∧ (∀ k, A' k → k < w.heap.size → A k) ∧ Aft A w w' := by
  rcases row_form hA.1 with ⟨c, rfl, rfl⟩ | ⟨h, c, rfl⟩
  · refine (run0 g lb eg p w c).mono ?_
    rintro e w' ⟨rfl, hb⟩
    obtain rfl : xs = [] := List.eq_nil_of_length_eq_zero (by rw [← hl]; rfl)
    exact ⟨_, rfl, fun k hk => hk, A, Item.loc _ hA hb.size (fun k hk => hb.block k (hA.2 k hk)), fun k hk _ => hk, Aft.of_below A hb⟩
  · obtain ⟨cs, hh, hcl, _, hn, hnc, hcx, hr⟩ := raw_box hA.1
    have hAh : A h := hA.1.1 h (by simp [Value.ownBlock])
    have wk : ∀ W, Aft (fun k => k = h) w W → Aft A w W := fun W ha => ⟨ha.os, ha.tape, ha.output, ha.size, fun k hk hn => ha.block k hk (fun e => hn (e ▸ hAh))⟩
    have := run g lb eg p w h c rows xs cs hh hcl hl (by omega) hcx hr (fun W hW => hK W (wk W hW)) (fun W hW => hC W (wk W hW))
    rw [hl]
    refine this.mono ?_
    rintro e w' ⟨rfl, cs', h1, h2, h3, h4⟩
    have hkl := kept_len p xs rows xs.length
    refine ⟨_, rfl, fun k hk => hk, fun k => k = h, ⟨box_raw h2 h1 (Nat.zero_le _) (by rw [List.length_map]) (by omega) hcx rfl (fun j us hj => ⟨h3 j us hj, ?_⟩), fun k hk => ?_⟩, fun k hk _ => hk ▸ hAh, wk w' h4⟩
    · obtain ⟨q, hq, rfl⟩ := List.mem_map.1 (List.mem_of_getElem? hj)
      unfold kept at hq
      have hm : q.2 ∈ rows := (List.of_mem_zip (List.mem_of_mem_take (List.mem_filter.1 hq).1)).2
      obtain ⟨t, ht, he⟩ := List.mem_iff_getElem.1 hm
      have := hr t q.2 (by rw [← he]; exact List.getElem?_eq_getElem ht)
      exact this.2
    · rw [hk]
      exact blk_lt h2
end Del102
end Go.Proofs.Ytblihmohgfmpgaa.WK

namespace Go.Proofs.Ytblihmohgfmpgaa.WK
open Go Go.RowKit Go.Proofs.Ytblihmohgfmpgaa.Q Go.Proofs.YtblihmohgfmpgaaW.PrintWords Go.Proofs.YtblihmohgfmpgaaW.Pl Go.Proofs.YtblihmohgfmpgaaW.SL
set_option linter.unusedSimpArgs false
set_option linter.unusedVariables false
set_option maxRecDepth 100000
namespace Poss
theorem agg69 : AggT Try.prog 69 4 := ⟨by kernel_rfl⟩
theorem agg35 : AggT Try.prog 35 3 := ⟨by kernel_rfl⟩
theorem en101 : Ent Try.prog 101 := ⟨enters_of Try.func101 (by kernel_rfl) rfl⟩
theorem en102 : Ent Try.prog 102 := ⟨enters_of Try.func102 (by kernel_rfl) rfl⟩
theorem en103 : Ent Try.prog 103 := ⟨enters_of Try.func103 (by kernel_rfl) rfl⟩
theorem en104 : Ent Try.prog 104 := ⟨enters_of Try.func104 (by kernel_rfl) rfl⟩
set_option maxHeartbeats 2000000 in
/-- The closure: is the school impossible? -/
theorem clo (m : List Int) (a b : Int) (A1 : Option Addr) (c1 : Nat) (x : S69) (us : List Value) (h : Nat) (q : Bool) (k : Nat) (w : World) (hc1 : m.length ≤ c1) (hbox : w.heap[h]? = some (.cells ([.slice A1 m.length c1, .int .i64 a, .int .i64 b] : List Value).toArray 35 (0, 0))) (hr1 : Kd.C (Kd.int .i64) w A1 m.length m) (hk : k69.K w x us)
    (hq : impl_isPossible.f k x.f0 x.f1 x.f2 x.f3 m a b = some q) : Calls Try.prog 104 (#[.agg us.toArray] ++ #[.pointer (some ⟨h, 0, none⟩)]) w fun e w' => e = .returned (.bool (!q)) ∧ Below w.heap.size w w' := by
  obtain ⟨A, c, rfl, hl, hg⟩ := k69_open hk
  have hlt := blk_lt hbox
  have hlen : ([.slice A1 m.length c1, .int .i64 a, .int .i64 b] : List Value).length = 3 := rfl
  rw [show (#[Value.agg ([.int .i64 x.f0, .slice A x.f1.length c, .int .i64 x.f2, .int .i64 x.f3] : List Value).toArray] ++ #[Value.pointer (some ⟨h, 0, none⟩)] : Array Value) = [Value.agg #[.int .i64 x.f0, .slice A x.f1.length c, .int .i64 x.f2, .int .i64 x.f3], .pointer (some ⟨h, 0, none⟩)].toArray from by simp]
  refine enterW (args := [.agg #[.int .i64 x.f0, .slice A x.f1.length c, .int .i64 x.f2, .int .i64 x.f3], .pointer (some ⟨h, 0, none⟩)]) (R := fun e w' => e = .returned (.bool (!q)) ∧ Below w.heap.size w w') [fun W => Cells W ⟨h, 0, none⟩ [.slice A1 m.length c1, .int .i64 a, .int .i64 b], fun W => Kd.C (Kd.int .i64) W A x.f1.length x.f1, fun W => Kd.C (Kd.int .i64) W A1 m.length m] (fun p hp W hb => by
    rcases List.mem_cons.1 hp with rfl | hp
    · have := Box_cells (w := W) (g := h) (T' := 35) (cs := [.slice A1 m.length c1, .int .i64 a, .int .i64 b]) (by rw [hb.block h hlt]; exact hbox) 0
      simpa using this
    · rcases List.mem_cons.1 hp with rfl | hp
      · exact Kd.C_below hg hb
      · rw [List.mem_singleton.1 hp]; exact Kd.C_below hr1 hb) Try.func104 rfl rfl ?_
  repeat (first
    | (apply gateO; first
      | refine Jl.yd (Y.mv rfl rfl) rfl rfl rfl ?_
      | refine Jl.yd (Y.asg rfl rfl) rfl rfl rfl ?_
      | refine Jl.yd (Y.ext rfl rfl rfl) rfl rfl rfl ?_
      | refine Jl.yd (Y.pickT rfl rfl rfl) rfl rfl rfl ?_
      | refine Jl.yd (Y.pickF rfl rfl rfl) rfl rfl rfl ?_
      | refine Jl.off rfl rfl rfl ?_
      | refine Jl.yd (Y.cmpF rfl rfl rfl rfl (by omega)) rfl rfl rfl ?_
      | refine Jl.yd (Y.cmpT rfl rfl rfl rfl (by omega)) rfl rfl rfl ?_
      | refine Jl.yd (Y.neqB rfl rfl rfl Try.underlying4) rfl rfl rfl ?_
      | refine Jl.yd (Y.cmp rfl rfl rfl rfl) rfl rfl rfl ?_
      | refine Jl.yd (Y.not rfl rfl) rfl rfl rfl ?_
      | refine Jl.yd (Y.arithN rfl rfl rfl rfl (by omega)) rfl rfl rfl ?_
      | refine Jl.yd (Y.arith64 rfl rfl rfl rfl) rfl rfl rfl ?_
      | refine Jl.yd (Y.loadA rfl rfl agg69 (by repeat (first | exact .head _ | refine .tail _ ?_)) (by rfl)) rfl rfl rfl ?_
      | refine Jl.yd (Y.loadA rfl rfl agg35 (by repeat (first | exact .head _ | refine .tail _ ?_)) (by rfl)) rfl rfl rfl ?_
      | refine Jl.box (zs := [.int .i64 x.f0, .slice A x.f1.length c, .int .i64 x.f2, .int .i64 x.f3]) rfl rfl rfl rfl rfl (by rfl) (fun g => ?_)
      | refine Jl.yd (Y.loadF (us := [.slice A1 m.length c1, .int .i64 a, .int .i64 b]) rfl rfl agg35 (by repeat (first | exact .head _ | refine .tail _ ?_)) (by rfl)) rfl rfl rfl ?_
      | refine Jl.call1 (v := .bool q) rfl rfl rfl rfl en101 rfl (fun w hW => by with_reducible exact impl_isPossible.calls k x.f0 A c x.f1 x.f2 x.f3 A1 c1 m a b q w (hW.at 1 rfl) hl (hW.at 2 rfl) hc1 hq) ?_
      | refine Jl.splitG rfl rfl (fun h => ?_) (fun h => ?_))
    | (apply gateE; first
      | refine Jl.nil (Ej.go ?_ (fun _ _ h => h))
      | (refine Jl.nil (Ej.back (fun _ _ h => h) (by repeat (first | exact .refl | apply DropTo.tail)) ?_); repeat (first | exact trivial | refine ⟨rfl, ?_⟩)))
    | (apply gateC; first
      | refine Cj.ret rfl (Ej.out1 (P := Try.prog) (fn := Try.f104) (R := fun e w' => e = .returned (.bool (!q)) ∧ Below w.heap.size w w') (fun _ _ h => h) rfl rfl (fun w hW => ⟨rfl, hW.below⟩))
      | refine Cj.condF rfl rfl (Cj.skip rfl (Ej.go ?_ (fun _ _ h => h)))
      | (refine Cj.condF rfl rfl (Cj.skip rfl (Ej.back (fun _ _ h => h) (by repeat (first | exact .refl | apply DropTo.tail)) ?_)); repeat (first | exact trivial | refine ⟨rfl, ?_⟩))
      | refine Cj.condF rfl rfl ?_
      | refine Cj.condT rfl rfl ?_
      | refine Cj.exit rfl (Ej.go ?_ (fun _ _ h => h))
      | refine Cj.cond rfl rfl (fun h => ?_) (fun h => ?_)
      | refine Cj.skip rfl (Ej.go ?_ (fun _ _ h => h))
      | (refine Cj.skip rfl (Ej.back (fun _ _ h => h) (by repeat (first | exact .refl | apply DropTo.tail)) ?_); repeat (first | exact trivial | refine ⟨rfl, ?_⟩))
      | refine Cj.seq rfl ?_
      | refine Cj.region rfl ?_))
theorem kept_fst {p : S69 → Bool} {xs : List S69} {rows : List (List Value)} (hl : rows.length = xs.length) : xs.filter (fun x => !p x) = (Del102.kept p xs rows xs.length).map (·.1) := by
  unfold Del102.kept
  rw [List.take_of_length_le (by rw [List.length_zip]; omega)]
  conv => lhs; rw [← List.map_fst_zip (l₁ := xs) (l₂ := rows) (by omega)]
  rw [List.filter_map]
  rfl
set_option maxHeartbeats 4000000 in
/-- impl.possible: the possible schools, in a row of its own. -/
theorem calls (P0 : Nat → Prop) (A0 : Option Addr) (c0 : Nat) (xs : List S69) (m : List Int) (a b : Int) (A1 : Option Addr) (c1 : Nat) (pos : S69 → Bool) (w0 : World) (hs0 : Kd.V k69 69 w0 w0.heap.size (fun k => P0 k) (.slice A0 xs.length c0) xs) (hr1 : Kd.C (Kd.int .i64) w0 A1 m.length m) (hc1 : m.length ≤ c1) (hn : xs.length ≤ 1048576)
    (hpos : ∀ x, x ∈ xs → ∃ k, impl_isPossible.f k x.f0 x.f1 x.f2 x.f3 m a b = some (pos x)) :
    Calls Try.prog 75 #[.slice A0 xs.length c0, .agg #[.slice A1 m.length c1, .int .i64 a, .int .i64 b]] w0 fun e w' => ∃ v, e = .returned v ∧ Kd.N k69 69 w' w0.heap.size (fun k => P0 k ∨ w0.heap.size ≤ k) v (xs.filter pos) ∧ Below w0.heap.size w0 w' := by
  let Rr : Ending → World → Prop := fun e w' => ∃ v, e = .returned v ∧ Kd.N k69 69 w' w0.heap.size (fun k => P0 k ∨ w0.heap.size ≤ k) v (xs.filter pos) ∧ Below w0.heap.size w0 w'
  let P1 : Nat → Prop := fun k => P0 k ∧ k < w0.heap.size
  have hv : Kd.V k69 69 w0 0 P1 (.slice A0 xs.length c0) xs := Kd.V_bound hs0
  refine enterW (args := [.slice A0 xs.length c0, .agg #[.slice A1 m.length c1, .int .i64 a, .int .i64 b]]) [fun W => Kd.V k69 69 W 0 P1 (.slice A0 xs.length c0) xs, fun W => Kd.C (Kd.int .i64) W A1 m.length m] (fun p hp W hb => by
    rcases List.mem_cons.1 hp with rfl | hp
    · exact Kd.V_below hv hb
    · rw [List.mem_singleton.1 hp]; exact Kd.C_below hr1 hb) Try.func75 rfl rfl ?_
  have clone_ : ∀ w its, WS (base w0) w its [fun W => Kd.V k69 69 W 0 P1 (.slice A0 xs.length c0) xs, fun W => Kd.C (Kd.int .i64) W A1 m.length m] → Calls Try.prog 103 [.slice A0 xs.length c0].toArray w fun e' w' => ∃ v, e' = .returned v ∧ Kd.N k69 69 w' w.heap.size (fun k => P1 k ∨ w.heap.size ≤ k) v xs ∧ Below w.heap.size w w' := fun w its hW =>
    impl_School_103.calls P1 A0 c0 xs xs w (hW.at 0 rfl) (by unfold impl_School_103.f; simp only [Option.bind_some, List.nil_append, List.length_nil, Nat.zero_add]; rw [if_pos (by omega)])
  show Cj Try.prog _ _ _ (bodyPost Try.prog Try.f75 Rr) _ _ _
  repeat (first
    | (apply gateO; first
      | refine Jl.yd (Y.mv rfl rfl) rfl rfl rfl ?_
      | refine Jl.yd (Y.asg rfl rfl) rfl rfl rfl ?_
      | refine Jl.yd (Y.ext rfl rfl rfl) rfl rfl rfl ?_
      | refine Jl.yd (Y.pickT rfl rfl rfl) rfl rfl rfl ?_
      | refine Jl.yd (Y.pickF rfl rfl rfl) rfl rfl rfl ?_
      | refine Jl.off rfl rfl rfl ?_
      | refine Jl.yd (Y.cmpF rfl rfl rfl rfl (by omega)) rfl rfl rfl ?_
      | refine Jl.yd (Y.cmpT rfl rfl rfl rfl (by omega)) rfl rfl rfl ?_
      | refine Jl.yd (Y.neqB rfl rfl rfl Try.underlying4) rfl rfl rfl ?_
      | refine Jl.yd (Y.cmp rfl rfl rfl rfl) rfl rfl rfl ?_
      | refine Jl.yd (Y.not rfl rfl) rfl rfl rfl ?_
      | refine Jl.yd (Y.arithN rfl rfl rfl rfl (by omega)) rfl rfl rfl ?_
      | refine Jl.yd (Y.arith64 rfl rfl rfl rfl) rfl rfl rfl ?_
      | refine Jl.yd (Y.loadA rfl rfl agg35 (by repeat (first | exact .head _ | refine .tail _ ?_)) (by rfl)) rfl rfl rfl ?_
      | refine Jl.box (zs := [.slice A1 m.length c1, .int .i64 a, .int .i64 b]) rfl rfl rfl rfl rfl (by rfl) (fun g => ?_)
      | refine Jl.callN (w0 := w0) (P0 := P1) (fun k hk => hk.2) (dk := k69) (e := 69) (xs := xs) rfl rfl rfl rfl en103 rfl (fun w hW => clone_ w _ hW) (fun A c rows ok hc hl _ hok => ?_)
      | refine Jl.yd (Y.mkFn1 rfl rfl) rfl rfl rfl ?_
      | refine Jl.splitG rfl rfl (fun h => ?_) (fun h => ?_))
    | (apply gateE; first
      | refine Jl.nil (Ej.go ?_ (fun _ _ h => h))
      | (refine Jl.nil (Ej.back (fun _ _ h => h) (by repeat (first | exact .refl | apply DropTo.tail)) ?_); repeat (first | exact trivial | refine ⟨rfl, ?_⟩)))
    | (apply gateC; first
      | refine Cj.condF rfl rfl (Cj.skip rfl (Ej.go ?_ (fun _ _ h => h)))
      | (refine Cj.condF rfl rfl (Cj.skip rfl (Ej.back (fun _ _ h => h) (by repeat (first | exact .refl | apply DropTo.tail)) ?_)); repeat (first | exact trivial | refine ⟨rfl, ?_⟩))
      | refine Cj.condF rfl rfl ?_
      | refine Cj.condT rfl rfl ?_
      | refine Cj.exit rfl (Ej.go ?_ (fun _ _ h => h))
      | refine Cj.cond rfl rfl (fun h => ?_) (fun h => ?_)
      | refine Cj.skip rfl (Ej.go ?_ (fun _ _ h => h))
      | (refine Cj.skip rfl (Ej.back (fun _ _ h => h) (by repeat (first | exact .refl | apply DropTo.tail)) ?_); repeat (first | exact trivial | refine ⟨rfl, ?_⟩))
      | refine Cj.seq rfl ?_
      | refine Cj.region rfl ?_))
  refine Jl.callX (ι := Value) (fun v' => ∀ k, v'.ownBlock = some k → (Value.slice A xs.length c).ownBlock = some k) (fun v' => v') (.row (Kd.raw 4) 69 0 (.slice A xs.length c) rows) (fun v' => .row (Kd.raw 4) 69 0 v' ((Del102.kept (fun x => !pos x) xs rows xs.length).map (·.2))) rfl rfl rfl rfl en102 rfl .z (fun w A' hA hB => ?_) (fun v' hv' => ?_)
  · refine (Del102.calls 104 #[.pointer (some ⟨g, 0, none⟩)] en104 (fun x => !pos x) w A' _ rows xs hl hA (fun W hW j x us hx hu => Kd.FK_now ((hB W hW).at 0 rfl j x us hx hu)) (fun W hW x hx us hk => ?_)).mono ?_
    · obtain ⟨k, hq⟩ := hpos x hx
      exact clo m a b A1 c1 x us g (pos x) k W hc1 (Box_at (hB W hW) (List.mem_cons_self)) ((hB W hW).at 2 rfl) hk hq
    · rintro e w' ⟨v', rfl, h1, h2⟩
      exact ⟨v', h1, rfl, h2⟩
  repeat (first
    | (apply gateO; first
      | refine Jl.yd (Y.mv rfl rfl) rfl rfl rfl ?_
      | refine Jl.yd (Y.asg rfl rfl) rfl rfl rfl ?_
      | refine Jl.yd (Y.ext rfl rfl rfl) rfl rfl rfl ?_
      | refine Jl.yd (Y.pickT rfl rfl rfl) rfl rfl rfl ?_
      | refine Jl.yd (Y.pickF rfl rfl rfl) rfl rfl rfl ?_
      | refine Jl.off rfl rfl rfl ?_
      | refine Jl.yd (Y.cmpF rfl rfl rfl rfl (by omega)) rfl rfl rfl ?_
      | refine Jl.yd (Y.cmpT rfl rfl rfl rfl (by omega)) rfl rfl rfl ?_
      | refine Jl.yd (Y.neqB rfl rfl rfl Try.underlying4) rfl rfl rfl ?_
      | refine Jl.yd (Y.cmp rfl rfl rfl rfl) rfl rfl rfl ?_
      | refine Jl.yd (Y.not rfl rfl) rfl rfl rfl ?_
      | refine Jl.yd (Y.arithN rfl rfl rfl rfl (by omega)) rfl rfl rfl ?_
      | refine Jl.yd (Y.arith64 rfl rfl rfl rfl) rfl rfl rfl ?_
      | refine Jl.splitG rfl rfl (fun h => ?_) (fun h => ?_))
    | (apply gateE; first
      | refine Jl.nil (Ej.go ?_ (fun _ _ h => h))
      | (refine Jl.nil (Ej.back (fun _ _ h => h) (by repeat (first | exact .refl | apply DropTo.tail)) ?_); repeat (first | exact trivial | refine ⟨rfl, ?_⟩)))
    | (apply gateC; first
      | refine Cj.condF rfl rfl (Cj.skip rfl (Ej.go ?_ (fun _ _ h => h)))
      | (refine Cj.condF rfl rfl (Cj.skip rfl (Ej.back (fun _ _ h => h) (by repeat (first | exact .refl | apply DropTo.tail)) ?_)); repeat (first | exact trivial | refine ⟨rfl, ?_⟩))
      | refine Cj.condF rfl rfl ?_
      | refine Cj.condT rfl rfl ?_
      | refine Cj.exit rfl (Ej.go ?_ (fun _ _ h => h))
      | refine Cj.cond rfl rfl (fun h => ?_) (fun h => ?_)
      | refine Cj.skip rfl (Ej.go ?_ (fun _ _ h => h))
      | (refine Cj.skip rfl (Ej.back (fun _ _ h => h) (by repeat (first | exact .refl | apply DropTo.tail)) ?_); repeat (first | exact trivial | refine ⟨rfl, ?_⟩))
      | refine Cj.seq rfl ?_
      | refine Cj.region rfl ?_))
  refine Cj.ret rfl (Ej.out1 (P := Try.prog) (fn := Try.f75) (R := Rr) (fun _ _ h => h) rfl rfl (fun w' hW => ?_))
  have hk1 : xs.filter pos = (Del102.kept (fun x => !pos x) xs rows xs.length).map (·.1) := by
    have h := kept_fst (p := fun x => !pos x) (xs := xs) (rows := rows) hl
    simp only [Bool.not_not] at h
    exact h
  have hb := hW.below
  have hFK := hW.at 0 rfl
  obtain ⟨h1, S, ⟨Aa, C1, g1, g2, g3, g4⟩, h3, h4⟩ := hW
  have hown : ∀ k, v'.ownBlock = some k → w0.heap.size ≤ k := fun k hk => (h3 k ((g3 k).2 (.inl (g1.1.1 k hk)))).resolve_left (fun h => h)
  have hR : (Kd.raw 4).R 69 w' w0.heap.size (fun k => some k = v'.ownBlock) v' ((Del102.kept (fun x => !pos x) xs rows xs.length).map (·.2)) := Kd.raw_tight (Kd.R_raise (b := 0) (fun _ _ _ _ h => h) g1.1 hown)
  obtain ⟨rows', hrows'⟩ : ∃ r, r = (Del102.kept (fun x => !pos x) xs rows xs.length).map (·.2) := ⟨_, rfl⟩
  rw [← hrows'] at hR
  refine ⟨v', rfl, ⟨fun k hk => .inr (hown k hk), rows', ?_, hR, fun j x us hx hu => ?_⟩, hb⟩
  · rw [hk1, hrows', List.length_map, List.length_map]
  · rw [hk1, List.getElem?_map] at hx
    rw [hrows', List.getElem?_map] at hu
    cases hq : (Del102.kept (fun x => !pos x) xs rows xs.length)[j]? with
    | none => rw [hq] at hx; cases hx
    | some q =>
      rw [hq] at hx hu
      obtain rfl : q.1 = x := by simpa using hx
      obtain rfl : q.2 = us := by simpa using hu
      have hm := List.mem_of_getElem? hq
      unfold Del102.kept at hm
      obtain ⟨t, ht, he⟩ := List.mem_iff_getElem.1 (List.mem_of_mem_take (List.mem_filter.1 hm).1)
      have hz : (xs.zip rows)[t]? = some (q.1, q.2) := by rw [List.getElem?_eq_getElem ht, he]
      rw [List.getElem?_zip_eq_some] at hz
      refine Kd.FK_mono (hFK t q.1 q.2 hz.1 hz.2) (fun k hk => ?_)
      obtain ⟨k1, k2⟩ := hok k hk
      exact ⟨k1.imp (fun h => h.1) id, fun e => k2 (hv' k e.symm).symm⟩
end Poss
end Go.Proofs.Ytblihmohgfmpgaa.WK

namespace Go.Proofs.Ytblihmohgfmpgaa.WK
open Go Go.RowKit Go.Proofs.Ytblihmohgfmpgaa.Q Go.Proofs.YtblihmohgfmpgaaW.PrintWords Go.Proofs.YtblihmohgfmpgaaW.Pl Go.Proofs.YtblihmohgfmpgaaW.SL
set_option linter.unusedSimpArgs false
set_option linter.unusedVariables false
set_option maxRecDepth 100000
namespace Likely
theorem agg69 : AggT Try.prog 69 4 := ⟨by kernel_rfl⟩
theorem agg35 : AggT Try.prog 35 3 := ⟨by kernel_rfl⟩
theorem sz69 : SzT Try.prog 69 4 := ⟨by kernel_rfl⟩
theorem sc3 : ScT Try.prog 3 := ⟨by kernel_rfl⟩
theorem fld69_0 : FldT Try.prog 69 0 0 := ⟨by kernel_rfl⟩
theorem zero69 : ZeroT Try.prog 69 [.int .i64 0, .slice none 0 0, .int .i64 0, .int .i64 0] := ⟨by kernel_rfl⟩
theorem el25 : ElT Try.prog 25 69 4 := ⟨by kernel_rfl⟩
theorem en69 : Ent Try.prog 69 := ⟨enters_of Try.func69 (by kernel_rfl) rfl⟩
theorem en75 : Ent Try.prog 75 := ⟨enters_of Try.func75 (by kernel_rfl) rfl⟩
theorem en74 : Ent Try.prog 74 := ⟨enters_of Try.func74 (by kernel_rfl) rfl⟩
/-- One more possible school. -/
def better (wI : S69 → Int) (s : Int × Int) (x : S69) : Int × Int := if s.1 = 0 ∨ wI x > s.2 then (x.f0, wI x) else s
def best (wI : S69 → Int) (ys : List S69) (i : Nat) : Int × Int := (ys.take i).foldl (better wI) (0, 0)
theorem best_succ (wI : S69 → Int) {ys : List S69} {i : Nat} {x : S69} (hx : ys[i]? = some x) : best wI ys (i + 1) = better wI (best wI ys i) x := by
  unfold best
  rw [List.take_add_one, hx, List.foldl_append]
  rfl
set_option maxHeartbeats 2000000 in
theorem no (P0 : Nat → Prop) (A0 : Option Addr) (c0 : Nat) (xs : List S69) (m : List Int) (a b : Int) (A1 : Option Addr) (c1 : Nat) (w0 : World) (hr0 : Kd.C k69 w0 A0 xs.length xs) (hc0 : xs.length ≤ c0) (hr1 : Kd.C (Kd.int .i64) w0 A1 m.length m) (hc1 : m.length ≤ c1)
    (kb : Nat) (hb : impl_areCompared.f kb xs m a b = some false) : Calls Try.prog 35 #[.slice A0 xs.length c0, .agg #[.slice A1 m.length c1, .int .i64 a, .int .i64 b]] w0 fun e w' => e = .returned (.tuple #[.int .i64 0, .bool false]) ∧ Below w0.heap.size w0 w' := by
  let Rr : Ending → World → Prop := fun e w' => e = .returned (.tuple #[.int .i64 0, .bool false]) ∧ Below w0.heap.size w0 w'
  refine enterW (args := [.slice A0 xs.length c0, .agg #[.slice A1 m.length c1, .int .i64 a, .int .i64 b]]) [fun W => Kd.C k69 W A0 xs.length xs, fun W => Kd.C (Kd.int .i64) W A1 m.length m] (fun p hp W hb => by
    rcases List.mem_cons.1 hp with rfl | hp
    · exact Kd.C_below hr0 hb
    · rw [List.mem_singleton.1 hp]; exact Kd.C_below hr1 hb) Try.func35 rfl rfl ?_
  have comp_ : ∀ w its, WS (base w0) w its [fun W => Kd.C k69 W A0 xs.length xs, fun W => Kd.C (Kd.int .i64) W A1 m.length m] → Calls Try.prog 69 [.slice A0 xs.length c0, .agg #[.slice A1 m.length c1, .int .i64 a, .int .i64 b]].toArray w fun e w' => e = .returned (.bool false) ∧ Below w.heap.size w w' := fun w its hW =>
    impl_areCompared.calls kb A0 c0 xs A1 c1 m a b false w (hW.at 0 rfl) hc0 (hW.at 1 rfl) hc1 hb
  show Cj Try.prog _ _ _ (bodyPost Try.prog Try.f35 Rr) _ _ _
  repeat (first
    | (apply gateO; first
      | refine Jl.yd (Y.mv rfl rfl) rfl rfl rfl ?_
      | refine Jl.yd (Y.asg rfl rfl) rfl rfl rfl ?_
      | refine Jl.yd (Y.ext rfl rfl rfl) rfl rfl rfl ?_
      | refine Jl.yd (Y.pickT rfl rfl rfl) rfl rfl rfl ?_
      | refine Jl.yd (Y.pickF rfl rfl rfl) rfl rfl rfl ?_
      | refine Jl.off rfl rfl rfl ?_
      | refine Jl.yd (Y.cmpF rfl rfl rfl rfl (by omega)) rfl rfl rfl ?_
      | refine Jl.yd (Y.cmpT rfl rfl rfl rfl (by omega)) rfl rfl rfl ?_
      | refine Jl.yd (Y.neqB rfl rfl rfl Try.underlying4) rfl rfl rfl ?_
      | refine Jl.yd (Y.cmp rfl rfl rfl rfl) rfl rfl rfl ?_
      | refine Jl.yd (Y.not rfl rfl) rfl rfl rfl ?_
      | refine Jl.yd (Y.arithN rfl rfl rfl rfl (by omega)) rfl rfl rfl ?_
      | refine Jl.yd (Y.arith64 rfl rfl rfl rfl) rfl rfl rfl ?_
      | refine Jl.yd (Y.loadA rfl rfl agg35 (by repeat (first | exact .head _ | refine .tail _ ?_)) (by rfl)) rfl rfl rfl ?_
      | refine Jl.box (zs := [.slice A1 m.length c1, .int .i64 a, .int .i64 b]) rfl rfl rfl rfl rfl (by rfl) (fun gp => ?_)
      | refine Jl.call1 (v := .bool false) rfl rfl rfl rfl en69 rfl (fun w hW => comp_ w _ hW) ?_
      | refine Jl.splitG rfl rfl (fun h => ?_) (fun h => ?_))
    | (apply gateE; first
      | refine Jl.nil (Ej.go ?_ (fun _ _ h => h))
      | (refine Jl.nil (Ej.back (fun _ _ h => h) (by repeat (first | exact .refl | apply DropTo.tail)) ?_); repeat (first | exact trivial | refine ⟨rfl, ?_⟩)))
    | (apply gateC; first
      | refine Cj.ret rfl (Ej.out2 (P := Try.prog) (fn := Try.f35) (R := Rr) (fun _ _ h => h) rfl rfl rfl (fun w' hW => ?_))
      | refine Cj.condF rfl rfl (Cj.skip rfl (Ej.go ?_ (fun _ _ h => h)))
      | (refine Cj.condF rfl rfl (Cj.skip rfl (Ej.back (fun _ _ h => h) (by repeat (first | exact .refl | apply DropTo.tail)) ?_)); repeat (first | exact trivial | refine ⟨rfl, ?_⟩))
      | refine Cj.condF rfl rfl ?_
      | refine Cj.condT rfl rfl ?_
      | refine Cj.exit rfl (Ej.go ?_ (fun _ _ h => h))
      | refine Cj.cond rfl rfl (fun h => ?_) (fun h => ?_)
      | refine Cj.skip rfl (Ej.go ?_ (fun _ _ h => h))
      | (refine Cj.skip rfl (Ej.back (fun _ _ h => h) (by repeat (first | exact .refl | apply DropTo.tail)) ?_); repeat (first | exact trivial | refine ⟨rfl, ?_⟩))
      | refine Cj.seq rfl ?_
      | refine Cj.region rfl ?_))
  exact ⟨rfl, hW.below⟩
set_option maxHeartbeats 8000000 in
/-- impl.LikelySchool at what is valid. -/
theorem yes (P0 : Nat → Prop) (A0 : Option Addr) (c0 : Nat) (xs : List S69) (m : List Int) (a b : Int) (A1 : Option Addr) (c1 : Nat) (pos : S69 → Bool) (wI : S69 → Int) (w0 : World) (hs0 : Kd.V k69 69 w0 w0.heap.size (fun k => P0 k) (.slice A0 xs.length c0) xs) (hr1 : Kd.C (Kd.int .i64) w0 A1 m.length m) (hc1 : m.length ≤ c1) (hn : xs.length ≤ 1048576)
    (kb : Nat) (hb : impl_areCompared.f kb xs m a b = some true) (hpos : ∀ x, x ∈ xs → ∃ k, impl_isPossible.f k x.f0 x.f1 x.f2 x.f3 m a b = some (pos x)) (hw : ∀ x, x ∈ xs → pos x = true → ∃ k, impl_weight.f k x.f0 x.f1 x.f2 x.f3 m a b = some (wI x)) :
    Calls Try.prog 35 #[.slice A0 xs.length c0, .agg #[.slice A1 m.length c1, .int .i64 a, .int .i64 b]] w0 fun e w' => e = .returned (.tuple #[.int .i64 (best wI (xs.filter pos) (xs.filter pos).length).1, .bool (decide ((best wI (xs.filter pos) (xs.filter pos).length).1 > 0))]) ∧ Below w0.heap.size w0 w' := by
  obtain ⟨ys, hys⟩ : ∃ ys, ys = xs.filter pos := ⟨_, rfl⟩
  have hyl : ys.length ≤ xs.length := by rw [hys]; exact List.length_filter_le _ _
  rw [← hys]
  let Rr : Ending → World → Prop := fun e w' => e = .returned (.tuple #[.int .i64 (best wI ys ys.length).1, .bool (decide ((best wI ys ys.length).1 > 0))]) ∧ Below w0.heap.size w0 w'
  let P1 : Nat → Prop := fun k => P0 k ∧ k < w0.heap.size
  have hv : Kd.V k69 69 w0 0 P1 (.slice A0 xs.length c0) xs := Kd.V_bound hs0
  refine enterW (args := [.slice A0 xs.length c0, .agg #[.slice A1 m.length c1, .int .i64 a, .int .i64 b]]) [fun W => Kd.V k69 69 W 0 P1 (.slice A0 xs.length c0) xs, fun W => Kd.C (Kd.int .i64) W A1 m.length m] (fun p hp W hb => by
    rcases List.mem_cons.1 hp with rfl | hp
    · exact Kd.V_below hv hb
    · rw [List.mem_singleton.1 hp]; exact Kd.C_below hr1 hb) Try.func35 rfl rfl ?_
  have comp_ : ∀ w its, WS (base w0) w its [fun W => Kd.V k69 69 W 0 P1 (.slice A0 xs.length c0) xs, fun W => Kd.C (Kd.int .i64) W A1 m.length m] → Calls Try.prog 69 [.slice A0 xs.length c0, .agg #[.slice A1 m.length c1, .int .i64 a, .int .i64 b]].toArray w fun e w' => e = .returned (.bool true) ∧ Below w.heap.size w w' := fun w its hW =>
    impl_areCompared.calls kb A0 c0 xs A1 c1 m a b true w (Kd.V_reads' (hW.at 0 rfl)).2.2 (Kd.V_reads' (hW.at 0 rfl)).2.1 (hW.at 1 rfl) hc1 hb
  have poss_ : ∀ w its, WS (base w0) w its [fun W => Kd.V k69 69 W 0 P1 (.slice A0 xs.length c0) xs, fun W => Kd.C (Kd.int .i64) W A1 m.length m] → Calls Try.prog 75 [.slice A0 xs.length c0, .agg #[.slice A1 m.length c1, .int .i64 a, .int .i64 b]].toArray w fun e' w' => ∃ v, e' = .returned v ∧ Kd.N k69 69 w' w.heap.size (fun k => P1 k ∨ w.heap.size ≤ k) v ys ∧ Below w.heap.size w w' := fun w its hW => by
    rw [hys]
    exact Poss.calls P1 A0 c0 xs m a b A1 c1 pos w (hW.at 0 rfl) (hW.at 1 rfl) hc1 hn hpos
  show Cj Try.prog _ _ _ (bodyPost Try.prog Try.f35 Rr) _ _ _
  repeat (first
    | (apply gateO; first
      | refine Jl.yd (Y.mv rfl rfl) rfl rfl rfl ?_
      | refine Jl.yd (Y.asg rfl rfl) rfl rfl rfl ?_
      | refine Jl.yd (Y.ext rfl rfl rfl) rfl rfl rfl ?_
      | refine Jl.yd (Y.pickT rfl rfl rfl) rfl rfl rfl ?_
      | refine Jl.yd (Y.pickF rfl rfl rfl) rfl rfl rfl ?_
      | refine Jl.off rfl rfl rfl ?_
      | refine Jl.yd (Y.cmpF rfl rfl rfl rfl (by omega)) rfl rfl rfl ?_
      | refine Jl.yd (Y.cmpT rfl rfl rfl rfl (by omega)) rfl rfl rfl ?_
      | refine Jl.yd (Y.neqB rfl rfl rfl Try.underlying4) rfl rfl rfl ?_
      | refine Jl.yd (Y.cmp rfl rfl rfl rfl) rfl rfl rfl ?_
      | refine Jl.yd (Y.not rfl rfl) rfl rfl rfl ?_
      | refine Jl.yd (Y.arithN rfl rfl rfl rfl (by omega)) rfl rfl rfl ?_
      | refine Jl.yd (Y.arith64 rfl rfl rfl rfl) rfl rfl rfl ?_
      | refine Jl.yd (Y.loadA rfl rfl agg35 (by repeat (first | exact .head _ | refine .tail _ ?_)) (by rfl)) rfl rfl rfl ?_
      | refine Jl.yd (Y.lenS Try.underlying25 rfl rfl rfl) rfl rfl rfl ?_
      | refine Jl.box (zs := [.slice A1 m.length c1, .int .i64 a, .int .i64 b]) rfl rfl rfl rfl rfl (by rfl) (fun gp => ?_)
      | refine Jl.call1 (v := .bool true) rfl rfl rfl rfl en69 rfl (fun w hW => comp_ w _ hW) ?_
      | refine Jl.callN (w0 := w0) (P0 := P1) (fun k hk => hk.2) (dk := k69) (e := 69) (xs := ys) rfl rfl rfl rfl en75 rfl (fun w hW => poss_ w _ hW) (fun A c rows ok hc hl hform hok => ?_)
      | refine Jl.splitG rfl rfl (fun h => ?_) (fun h => ?_))
    | (apply gateE; first
      | refine Jl.nil (Ej.go ?_ (fun _ _ h => h))
      | (refine Jl.nil (Ej.back (fun _ _ h => h) (by repeat (first | exact .refl | apply DropTo.tail)) ?_); repeat (first | exact trivial | refine ⟨rfl, ?_⟩)))
    | (apply gateC; first
      | refine Cj.condF rfl rfl (Cj.skip rfl (Ej.go ?_ (fun _ _ h => h)))
      | (refine Cj.condF rfl rfl (Cj.skip rfl (Ej.back (fun _ _ h => h) (by repeat (first | exact .refl | apply DropTo.tail)) ?_)); repeat (first | exact trivial | refine ⟨rfl, ?_⟩))
      | refine Cj.condF rfl rfl ?_
      | refine Cj.condT rfl rfl ?_
      | refine Cj.exit rfl (Ej.go ?_ (fun _ _ h => h))
      | refine Cj.cond rfl rfl (fun h => ?_) (fun h => ?_)
      | refine Cj.skip rfl (Ej.go ?_ (fun _ _ h => h))
      | (refine Cj.skip rfl (Ej.back (fun _ _ h => h) (by repeat (first | exact .refl | apply DropTo.tail)) ?_); repeat (first | exact trivial | refine ⟨rfl, ?_⟩))
      | refine Cj.seq rfl ?_
      | refine Cj.region rfl ?_))
  refine Cj.block rfl ?_
  refine Cj.loop (ι := Nat) (fun i => i ≤ ys.length) (fun i => [(3, .pointer (some ⟨gp, 0, none⟩)), (6, .int .i64 (best wI ys i).1), (7, .int .i64 (best wI ys i).2), (17, .slice A ys.length c), (18, .int .i64 (ys.length : Int)), (19, .int .i64 (i : Int))])
    (fun _ => [.row (Kd.raw k69.sz) 69 0 (.slice A ys.length c) rows, .box gp 35 [.slice A1 m.length c1, .int .i64 a, .int .i64 b]]) (fun _ => [fun W => ∀ (j : Nat) (x : S69) (us : List Value), ys[j]? = some x → rows[j]? = some us → Kd.FK k69 W ok x us, fun W => Kd.V k69 69 W 0 P1 (.slice A0 xs.length c0) xs, fun W => Kd.C (Kd.int .i64) W A1 m.length m]) (fun i => ys.length - i) rfl 0 (Nat.zero_le _) ⟨rfl, rfl, rfl, rfl, rfl, rfl, trivial⟩ rfl (fun p hp => hp) (fun i hi => ?_)
  obtain ⟨s1, s2, hst⟩ : ∃ s1 s2, best wI ys i = (s1, s2) := ⟨_, _, rfl⟩
  rw [hst]
  dsimp only
  by_cases hlt : i < ys.length
  · obtain ⟨g2, rfl⟩ := hform.resolve_left (by omega)
    obtain ⟨x, hx⟩ : ∃ x, ys[i]? = some x := ⟨_, List.getElem?_eq_getElem hlt⟩
    obtain ⟨u, hu⟩ : ∃ u, rows[i]? = some u := ⟨_, List.getElem?_eq_getElem (by omega)⟩
    have hxm : x ∈ xs ∧ pos x = true := by have := List.mem_of_getElem? hx; rw [hys] at this; exact List.mem_filter.1 this
    obtain ⟨kw, hwx⟩ := hw x hxm.1 hxm.2
    have hbs := best_succ wI hx
    rw [hst] at hbs
    refine Cj.ws (ι := Option Addr × Nat) (fun q => u = [.int .i64 x.f0, .slice q.1 x.f1.length q.2, .int .i64 x.f2, .int .i64 x.f3] ∧ x.f1.length ≤ q.2) (fun _ => [.row (Kd.raw k69.sz) 69 0 (.slice (some ⟨g2, 0, none⟩) ys.length c) rows, .box gp 35 [.slice A1 m.length c1, .int .i64 a, .int .i64 b]]) (fun q => [fun W => Kd.C (Kd.int .i64) W q.1 x.f1.length x.f1, fun W => ∀ (j : Nat) (x : S69) (us : List Value), ys[j]? = some x → rows[j]? = some us → Kd.FK k69 W ok x us, fun W => Kd.V k69 69 W 0 P1 (.slice A0 xs.length c0) xs, fun W => Kd.C (Kd.int .i64) W A1 m.length m]) (fun w hW => ?_) (fun q hq => ?_)
    · obtain ⟨A', c', he, hl', _⟩ := k69_open (Kd.FK_now (hW.at 0 rfl i x u hx hu))
      refine ⟨(A', c'), ⟨he, hl'⟩, hW.imp (p := fun W => ∀ (j : Nat) (x : S69) (us : List Value), ys[j]? = some x → rows[j]? = some us → Kd.FK k69 W ok x us) (List.mem_cons_self) (fun W hp => ?_)⟩
      obtain ⟨A'', c'', he', _, hg⟩ := k69_open (Kd.FK_now (hp i x u hx hu))
      rw [he] at he'
      injection he' with _ he'
      injection he' with he' _
      injection he' with he'
      subst he'
      exact hg
    obtain ⟨A', c'⟩ := q
    obtain ⟨hus, hl'⟩ := hq
    dsimp only at hus hl' ⊢
    have hgd : rows.getD ((i : Int)).toNat [] = [.int .i64 x.f0, .slice A' x.f1.length c', .int .i64 x.f2, .int .i64 x.f3] := by
      rw [Int.toNat_natCast, List.getD_eq_getElem?_getD, hu, ← hus]; rfl
    by_cases hz : s1 = 0
    · rw [better, if_pos (.inl hz)] at hbs
      repeat (first
    | (apply gateO; first
      | refine Jl.yd (Y.mv rfl rfl) rfl rfl rfl ?_
      | refine Jl.yd (Y.asg rfl rfl) rfl rfl rfl ?_
      | refine Jl.yd (Y.ext rfl rfl rfl) rfl rfl rfl ?_
      | refine Jl.yd (Y.pickT rfl rfl rfl) rfl rfl rfl ?_
      | refine Jl.yd (Y.pickF rfl rfl rfl) rfl rfl rfl ?_
      | refine Jl.off rfl rfl rfl ?_
      | refine Jl.yd (Y.cmpF rfl rfl rfl rfl (by omega)) rfl rfl rfl ?_
      | refine Jl.yd (Y.cmpT rfl rfl rfl rfl (by omega)) rfl rfl rfl ?_
      | refine Jl.yd (Y.neqB rfl rfl rfl Try.underlying4) rfl rfl rfl ?_
      | refine Jl.yd (Y.cmp rfl rfl rfl rfl) rfl rfl rfl ?_
      | refine Jl.yd (Y.not rfl rfl) rfl rfl rfl ?_
      | refine Jl.yd (Y.arithN rfl rfl rfl rfl (by omega)) rfl rfl rfl ?_
      | refine Jl.yd (Y.arith64 rfl rfl rfl rfl) rfl rfl rfl ?_
      | refine Jl.yd (Y.loadA rfl rfl agg35 (by repeat (first | exact .head _ | refine .tail _ ?_)) (by rfl)) rfl rfl rfl ?_
      | refine Jl.yd (Y.loadA rfl rfl agg69 (by repeat (first | exact .head _ | refine .tail _ ?_)) (by rfl)) rfl rfl rfl ?_
      | refine Jl.yd (Y.load1 rfl rfl sc3 (by repeat (first | exact .head _ | refine .tail _ ?_)) (by rfl)) rfl rfl rfl ?_
      | refine Jl.yd (Y.fld0 rfl rfl fld69_0) rfl rfl rfl ?_
      | refine Jl.alloc rfl rfl rfl rfl zero69 (fun g => ?_)
      | refine Jl.storeA rfl rfl rfl rfl rfl sz69 (by repeat (first | exact .z | apply SetAt.s)) (by rfl) (by rfl) ?_
      | refine Jl.yd (Y.idx0 rfl rfl rfl el25 (by omega) (by omega)) rfl rfl rfl ?_
      | refine Jl.yd (Y.loadRA [] rfl rfl agg69 (by repeat (first | exact .head _ | refine .tail _ ?_)) (i : Int) (by omega) (by omega) (by rfl) (by rfl) (fun w ok cs h => (raw_cells h).trans hgd)) rfl rfl rfl ?_
      | refine Jl.call1 (v := .int .i64 (wI x)) rfl rfl rfl rfl en74 rfl (fun w hW => by with_reducible exact impl_weight.calls kw x.f0 A' c' x.f1 x.f2 x.f3 A1 c1 m a b (wI x) w (hW.at 0 rfl) hl' (hW.at 3 rfl) hc1 hwx) ?_
      | refine Jl.splitG rfl rfl (fun h => ?_) (fun h => ?_))
    | (apply gateE; first
      | refine Jl.nil (Ej.go ?_ (fun _ _ h => h))
      | (refine Jl.nil (Ej.back (fun _ _ h => h) (by repeat (first | exact .refl | apply DropTo.tail)) ?_); repeat (first | exact trivial | refine ⟨rfl, ?_⟩)))
    | (apply gateC; first
      | refine Cj.block rfl ?_
      | refine Cj.condF rfl rfl (Cj.skip rfl (Ej.go ?_ (fun _ _ h => h)))
      | (refine Cj.condF rfl rfl (Cj.skip rfl (Ej.back (fun _ _ h => h) (by repeat (first | exact .refl | apply DropTo.tail)) ?_)); repeat (first | exact trivial | refine ⟨rfl, ?_⟩))
      | refine Cj.condF rfl rfl ?_
      | refine Cj.condT rfl rfl ?_
      | refine Cj.exit rfl (Ej.go ?_ (fun _ _ h => h))
      | refine Cj.cond rfl rfl (fun h => ?_) (fun h => ?_)
      | refine Cj.skip rfl (Ej.go ?_ (fun _ _ h => h))
      | (refine Cj.skip rfl (Ej.back (fun _ _ h => h) (by repeat (first | exact .refl | apply DropTo.tail)) ?_); repeat (first | exact trivial | refine ⟨rfl, ?_⟩))
      | refine Cj.seq rfl ?_
      | refine Cj.region rfl ?_))
      refine Jl.nil (Ej.ws (ι := Unit) (fun _ => True) (fun _ => [.row (Kd.raw k69.sz) 69 0 (.slice (some ⟨g2, 0, none⟩) ys.length c) rows, .box gp 35 [.slice A1 m.length c1, .int .i64 a, .int .i64 b]]) (fun _ => [fun W => ∀ (j : Nat) (x : S69) (us : List Value), ys[j]? = some x → rows[j]? = some us → Kd.FK k69 W ok x us, fun W => Kd.V k69 69 W 0 P1 (.slice A0 xs.length c0) xs, fun W => Kd.C (Kd.int .i64) W A1 m.length m]) (fun w hW => by
        have h := hW.drop (n := 0) rfl
        exact ⟨(), trivial, WS.sub h (fun p hp => List.mem_cons_of_mem _ hp)⟩) (fun _ _ => ?_))
      refine Ej.cut (ι := Nat) _ _ _ _ (fun _ _ h => h) (i + 1) ⟨by omega, by omega⟩ ⟨rfl, ?_, ?_, rfl, rfl, rfl, trivial⟩ rfl (fun p hp => hp)
      · show some (Value.int .i64 x.f0) = some (.int .i64 (best wI ys (i + 1)).1)
        rw [hbs]
      · show some (Value.int .i64 (wI x)) = some (.int .i64 (best wI ys (i + 1)).2)
        rw [hbs]
    · by_cases hgt : wI x > s2
      · rw [better, if_pos (.inr hgt)] at hbs
        repeat (first
    | (apply gateO; first
      | refine Jl.yd (Y.mv rfl rfl) rfl rfl rfl ?_
      | refine Jl.yd (Y.asg rfl rfl) rfl rfl rfl ?_
      | refine Jl.yd (Y.ext rfl rfl rfl) rfl rfl rfl ?_
      | refine Jl.yd (Y.pickT rfl rfl rfl) rfl rfl rfl ?_
      | refine Jl.yd (Y.pickF rfl rfl rfl) rfl rfl rfl ?_
      | refine Jl.off rfl rfl rfl ?_
      | refine Jl.yd (Y.cmpF rfl rfl rfl rfl (by omega)) rfl rfl rfl ?_
      | refine Jl.yd (Y.cmpT rfl rfl rfl rfl (by omega)) rfl rfl rfl ?_
      | refine Jl.yd (Y.neqB rfl rfl rfl Try.underlying4) rfl rfl rfl ?_
      | refine Jl.yd (Y.cmp rfl rfl rfl rfl) rfl rfl rfl ?_
      | refine Jl.yd (Y.not rfl rfl) rfl rfl rfl ?_
      | refine Jl.yd (Y.arithN rfl rfl rfl rfl (by omega)) rfl rfl rfl ?_
      | refine Jl.yd (Y.arith64 rfl rfl rfl rfl) rfl rfl rfl ?_
      | refine Jl.yd (Y.loadA rfl rfl agg35 (by repeat (first | exact .head _ | refine .tail _ ?_)) (by rfl)) rfl rfl rfl ?_
      | refine Jl.yd (Y.loadA rfl rfl agg69 (by repeat (first | exact .head _ | refine .tail _ ?_)) (by rfl)) rfl rfl rfl ?_
      | refine Jl.yd (Y.load1 rfl rfl sc3 (by repeat (first | exact .head _ | refine .tail _ ?_)) (by rfl)) rfl rfl rfl ?_
      | refine Jl.yd (Y.fld0 rfl rfl fld69_0) rfl rfl rfl ?_
      | refine Jl.alloc rfl rfl rfl rfl zero69 (fun g => ?_)
      | refine Jl.storeA rfl rfl rfl rfl rfl sz69 (by repeat (first | exact .z | apply SetAt.s)) (by rfl) (by rfl) ?_
      | refine Jl.yd (Y.idx0 rfl rfl rfl el25 (by omega) (by omega)) rfl rfl rfl ?_
      | refine Jl.yd (Y.loadRA [] rfl rfl agg69 (by repeat (first | exact .head _ | refine .tail _ ?_)) (i : Int) (by omega) (by omega) (by rfl) (by rfl) (fun w ok cs h => (raw_cells h).trans hgd)) rfl rfl rfl ?_
      | refine Jl.call1 (v := .int .i64 (wI x)) rfl rfl rfl rfl en74 rfl (fun w hW => by with_reducible exact impl_weight.calls kw x.f0 A' c' x.f1 x.f2 x.f3 A1 c1 m a b (wI x) w (hW.at 0 rfl) hl' (hW.at 3 rfl) hc1 hwx) ?_
      | refine Jl.splitG rfl rfl (fun h => ?_) (fun h => ?_))
    | (apply gateE; first
      | refine Jl.nil (Ej.go ?_ (fun _ _ h => h))
      | (refine Jl.nil (Ej.back (fun _ _ h => h) (by repeat (first | exact .refl | apply DropTo.tail)) ?_); repeat (first | exact trivial | refine ⟨rfl, ?_⟩)))
    | (apply gateC; first
      | refine Cj.block rfl ?_
      | refine Cj.condF rfl rfl (Cj.skip rfl (Ej.go ?_ (fun _ _ h => h)))
      | (refine Cj.condF rfl rfl (Cj.skip rfl (Ej.back (fun _ _ h => h) (by repeat (first | exact .refl | apply DropTo.tail)) ?_)); repeat (first | exact trivial | refine ⟨rfl, ?_⟩))
      | refine Cj.condF rfl rfl ?_
      | refine Cj.condT rfl rfl ?_
      | refine Cj.exit rfl (Ej.go ?_ (fun _ _ h => h))
      | refine Cj.cond rfl rfl (fun h => ?_) (fun h => ?_)
      | refine Cj.skip rfl (Ej.go ?_ (fun _ _ h => h))
      | (refine Cj.skip rfl (Ej.back (fun _ _ h => h) (by repeat (first | exact .refl | apply DropTo.tail)) ?_); repeat (first | exact trivial | refine ⟨rfl, ?_⟩))
      | refine Cj.seq rfl ?_
      | refine Cj.region rfl ?_))
        refine Jl.nil (Ej.ws (ι := Unit) (fun _ => True) (fun _ => [.row (Kd.raw k69.sz) 69 0 (.slice (some ⟨g2, 0, none⟩) ys.length c) rows, .box gp 35 [.slice A1 m.length c1, .int .i64 a, .int .i64 b]]) (fun _ => [fun W => ∀ (j : Nat) (x : S69) (us : List Value), ys[j]? = some x → rows[j]? = some us → Kd.FK k69 W ok x us, fun W => Kd.V k69 69 W 0 P1 (.slice A0 xs.length c0) xs, fun W => Kd.C (Kd.int .i64) W A1 m.length m]) (fun w hW => by
        have h := hW.drop (n := 0) rfl
        exact ⟨(), trivial, WS.sub h (fun p hp => List.mem_cons_of_mem _ hp)⟩) (fun _ _ => ?_))
        refine Ej.cut (ι := Nat) _ _ _ _ (fun _ _ h => h) (i + 1) ⟨by omega, by omega⟩ ⟨rfl, ?_, ?_, rfl, rfl, rfl, trivial⟩ rfl (fun p hp => hp)
        · show some (Value.int .i64 x.f0) = some (.int .i64 (best wI ys (i + 1)).1)
          rw [hbs]
        · show some (Value.int .i64 (wI x)) = some (.int .i64 (best wI ys (i + 1)).2)
          rw [hbs]
      · rw [better, if_neg (fun h => h.elim hz hgt)] at hbs
        repeat (first
    | (apply gateO; first
      | refine Jl.yd (Y.mv rfl rfl) rfl rfl rfl ?_
      | refine Jl.yd (Y.asg rfl rfl) rfl rfl rfl ?_
      | refine Jl.yd (Y.ext rfl rfl rfl) rfl rfl rfl ?_
      | refine Jl.yd (Y.pickT rfl rfl rfl) rfl rfl rfl ?_
      | refine Jl.yd (Y.pickF rfl rfl rfl) rfl rfl rfl ?_
      | refine Jl.off rfl rfl rfl ?_
      | refine Jl.yd (Y.cmpF rfl rfl rfl rfl (by omega)) rfl rfl rfl ?_
      | refine Jl.yd (Y.cmpT rfl rfl rfl rfl (by omega)) rfl rfl rfl ?_
      | refine Jl.yd (Y.neqB rfl rfl rfl Try.underlying4) rfl rfl rfl ?_
      | refine Jl.yd (Y.cmp rfl rfl rfl rfl) rfl rfl rfl ?_
      | refine Jl.yd (Y.not rfl rfl) rfl rfl rfl ?_
      | refine Jl.yd (Y.arithN rfl rfl rfl rfl (by omega)) rfl rfl rfl ?_
      | refine Jl.yd (Y.arith64 rfl rfl rfl rfl) rfl rfl rfl ?_
      | refine Jl.yd (Y.loadA rfl rfl agg35 (by repeat (first | exact .head _ | refine .tail _ ?_)) (by rfl)) rfl rfl rfl ?_
      | refine Jl.yd (Y.loadA rfl rfl agg69 (by repeat (first | exact .head _ | refine .tail _ ?_)) (by rfl)) rfl rfl rfl ?_
      | refine Jl.yd (Y.load1 rfl rfl sc3 (by repeat (first | exact .head _ | refine .tail _ ?_)) (by rfl)) rfl rfl rfl ?_
      | refine Jl.yd (Y.fld0 rfl rfl fld69_0) rfl rfl rfl ?_
      | refine Jl.alloc rfl rfl rfl rfl zero69 (fun g => ?_)
      | refine Jl.storeA rfl rfl rfl rfl rfl sz69 (by repeat (first | exact .z | apply SetAt.s)) (by rfl) (by rfl) ?_
      | refine Jl.yd (Y.idx0 rfl rfl rfl el25 (by omega) (by omega)) rfl rfl rfl ?_
      | refine Jl.yd (Y.loadRA [] rfl rfl agg69 (by repeat (first | exact .head _ | refine .tail _ ?_)) (i : Int) (by omega) (by omega) (by rfl) (by rfl) (fun w ok cs h => (raw_cells h).trans hgd)) rfl rfl rfl ?_
      | refine Jl.call1 (v := .int .i64 (wI x)) rfl rfl rfl rfl en74 rfl (fun w hW => by with_reducible exact impl_weight.calls kw x.f0 A' c' x.f1 x.f2 x.f3 A1 c1 m a b (wI x) w (hW.at 0 rfl) hl' (hW.at 3 rfl) hc1 hwx) ?_
      | refine Jl.splitG rfl rfl (fun h => ?_) (fun h => ?_))
    | (apply gateE; first
      | refine Jl.nil (Ej.go ?_ (fun _ _ h => h))
      | (refine Jl.nil (Ej.back (fun _ _ h => h) (by repeat (first | exact .refl | apply DropTo.tail)) ?_); repeat (first | exact trivial | refine ⟨rfl, ?_⟩)))
    | (apply gateC; first
      | refine Cj.block rfl ?_
      | refine Cj.condF rfl rfl (Cj.skip rfl (Ej.go ?_ (fun _ _ h => h)))
      | (refine Cj.condF rfl rfl (Cj.skip rfl (Ej.back (fun _ _ h => h) (by repeat (first | exact .refl | apply DropTo.tail)) ?_)); repeat (first | exact trivial | refine ⟨rfl, ?_⟩))
      | refine Cj.condF rfl rfl ?_
      | refine Cj.condT rfl rfl ?_
      | refine Cj.exit rfl (Ej.go ?_ (fun _ _ h => h))
      | refine Cj.cond rfl rfl (fun h => ?_) (fun h => ?_)
      | refine Cj.skip rfl (Ej.go ?_ (fun _ _ h => h))
      | (refine Cj.skip rfl (Ej.back (fun _ _ h => h) (by repeat (first | exact .refl | apply DropTo.tail)) ?_); repeat (first | exact trivial | refine ⟨rfl, ?_⟩))
      | refine Cj.seq rfl ?_
      | refine Cj.region rfl ?_))
        refine Jl.nil (Ej.ws (ι := Unit) (fun _ => True) (fun _ => [.row (Kd.raw k69.sz) 69 0 (.slice (some ⟨g2, 0, none⟩) ys.length c) rows, .box gp 35 [.slice A1 m.length c1, .int .i64 a, .int .i64 b]]) (fun _ => [fun W => ∀ (j : Nat) (x : S69) (us : List Value), ys[j]? = some x → rows[j]? = some us → Kd.FK k69 W ok x us, fun W => Kd.V k69 69 W 0 P1 (.slice A0 xs.length c0) xs, fun W => Kd.C (Kd.int .i64) W A1 m.length m]) (fun w hW => by
        have h := hW.drop (n := 0) rfl
        exact ⟨(), trivial, WS.sub h (fun p hp => List.mem_cons_of_mem _ hp)⟩) (fun _ _ => ?_))
        refine Ej.cut (ι := Nat) _ _ _ _ (fun _ _ h => h) (i + 1) ⟨by omega, by omega⟩ ⟨rfl, ?_, ?_, rfl, rfl, rfl, trivial⟩ rfl (fun p hp => hp)
        · show some (Value.int .i64 s1) = some (.int .i64 (best wI ys (i + 1)).1)
          rw [hbs]
        · show some (Value.int .i64 s2) = some (.int .i64 (best wI ys (i + 1)).2)
          rw [hbs]
  · obtain rfl : i = ys.length := by omega
    by_cases hp : s1 > 0
    · repeat (first
    | (apply gateO; first
      | refine Jl.yd (Y.mv rfl rfl) rfl rfl rfl ?_
      | refine Jl.yd (Y.asg rfl rfl) rfl rfl rfl ?_
      | refine Jl.yd (Y.ext rfl rfl rfl) rfl rfl rfl ?_
      | refine Jl.yd (Y.pickT rfl rfl rfl) rfl rfl rfl ?_
      | refine Jl.yd (Y.pickF rfl rfl rfl) rfl rfl rfl ?_
      | refine Jl.off rfl rfl rfl ?_
      | refine Jl.yd (Y.cmpF rfl rfl rfl rfl (by omega)) rfl rfl rfl ?_
      | refine Jl.yd (Y.cmpT rfl rfl rfl rfl (by omega)) rfl rfl rfl ?_
      | refine Jl.yd (Y.neqB rfl rfl rfl Try.underlying4) rfl rfl rfl ?_
      | refine Jl.yd (Y.cmp rfl rfl rfl rfl) rfl rfl rfl ?_
      | refine Jl.yd (Y.not rfl rfl) rfl rfl rfl ?_
      | refine Jl.yd (Y.arithN rfl rfl rfl rfl (by omega)) rfl rfl rfl ?_
      | refine Jl.yd (Y.arith64 rfl rfl rfl rfl) rfl rfl rfl ?_
      | refine Jl.splitG rfl rfl (fun h => ?_) (fun h => ?_))
    | (apply gateE; first
      | refine Jl.nil (Ej.go ?_ (fun _ _ h => h))
      | (refine Jl.nil (Ej.back (fun _ _ h => h) (by repeat (first | exact .refl | apply DropTo.tail)) ?_); repeat (first | exact trivial | refine ⟨rfl, ?_⟩)))
    | (apply gateC; first
      | refine Cj.ret rfl (Ej.out2 (P := Try.prog) (fn := Try.f35) (R := Rr) (fun _ _ h => h) rfl rfl rfl (fun w' hW => ?_))
      | refine Cj.condF rfl rfl (Cj.skip rfl (Ej.go ?_ (fun _ _ h => h)))
      | (refine Cj.condF rfl rfl (Cj.skip rfl (Ej.back (fun _ _ h => h) (by repeat (first | exact .refl | apply DropTo.tail)) ?_)); repeat (first | exact trivial | refine ⟨rfl, ?_⟩))
      | refine Cj.condF rfl rfl ?_
      | refine Cj.condT rfl rfl ?_
      | refine Cj.exit rfl (Ej.go ?_ (fun _ _ h => h))
      | refine Cj.cond rfl rfl (fun h => ?_) (fun h => ?_)
      | refine Cj.skip rfl (Ej.go ?_ (fun _ _ h => h))
      | (refine Cj.skip rfl (Ej.back (fun _ _ h => h) (by repeat (first | exact .refl | apply DropTo.tail)) ?_); repeat (first | exact trivial | refine ⟨rfl, ?_⟩))
      | refine Cj.seq rfl ?_
      | refine Cj.region rfl ?_))
      exact ⟨by rw [hst, decide_eq_true hp], hW.below⟩
    · repeat (first
    | (apply gateO; first
      | refine Jl.yd (Y.mv rfl rfl) rfl rfl rfl ?_
      | refine Jl.yd (Y.asg rfl rfl) rfl rfl rfl ?_
      | refine Jl.yd (Y.ext rfl rfl rfl) rfl rfl rfl ?_
      | refine Jl.yd (Y.pickT rfl rfl rfl) rfl rfl rfl ?_
      | refine Jl.yd (Y.pickF rfl rfl rfl) rfl rfl rfl ?_
      | refine Jl.off rfl rfl rfl ?_
      | refine Jl.yd (Y.cmpF rfl rfl rfl rfl (by omega)) rfl rfl rfl ?_
      | refine Jl.yd (Y.cmpT rfl rfl rfl rfl (by omega)) rfl rfl rfl ?_
      | refine Jl.yd (Y.neqB rfl rfl rfl Try.underlying4) rfl rfl rfl ?_
      | refine Jl.yd (Y.cmp rfl rfl rfl rfl) rfl rfl rfl ?_
      | refine Jl.yd (Y.not rfl rfl) rfl rfl rfl ?_
      | refine Jl.yd (Y.arithN rfl rfl rfl rfl (by omega)) rfl rfl rfl ?_
      | refine Jl.yd (Y.arith64 rfl rfl rfl rfl) rfl rfl rfl ?_
      | refine Jl.splitG rfl rfl (fun h => ?_) (fun h => ?_))
    | (apply gateE; first
      | refine Jl.nil (Ej.go ?_ (fun _ _ h => h))
      | (refine Jl.nil (Ej.back (fun _ _ h => h) (by repeat (first | exact .refl | apply DropTo.tail)) ?_); repeat (first | exact trivial | refine ⟨rfl, ?_⟩)))
    | (apply gateC; first
      | refine Cj.ret rfl (Ej.out2 (P := Try.prog) (fn := Try.f35) (R := Rr) (fun _ _ h => h) rfl rfl rfl (fun w' hW => ?_))
      | refine Cj.condF rfl rfl (Cj.skip rfl (Ej.go ?_ (fun _ _ h => h)))
      | (refine Cj.condF rfl rfl (Cj.skip rfl (Ej.back (fun _ _ h => h) (by repeat (first | exact .refl | apply DropTo.tail)) ?_)); repeat (first | exact trivial | refine ⟨rfl, ?_⟩))
      | refine Cj.condF rfl rfl ?_
      | refine Cj.condT rfl rfl ?_
      | refine Cj.exit rfl (Ej.go ?_ (fun _ _ h => h))
      | refine Cj.cond rfl rfl (fun h => ?_) (fun h => ?_)
      | refine Cj.skip rfl (Ej.go ?_ (fun _ _ h => h))
      | (refine Cj.skip rfl (Ej.back (fun _ _ h => h) (by repeat (first | exact .refl | apply DropTo.tail)) ?_); repeat (first | exact trivial | refine ⟨rfl, ?_⟩))
      | refine Cj.seq rfl ?_
      | refine Cj.region rfl ?_))
      exact ⟨by rw [hst, decide_eq_false hp], hW.below⟩
end Likely
end Go.Proofs.Ytblihmohgfmpgaa.WK

namespace Go.Proofs.Ytblihmohgfmpgaa.M
open Go.RowKit Go.Proofs.Ytblihmohgfmpgaa.Q Go.Proofs.YtblihmohgfmpgaaW.PrintWords Go.Proofs.YtblihmohgfmpgaaW.PrintLast Go.Proofs.YtblihmohgfmpgaaW.Pl Go.Proofs.Ytblihmohgfmpgaa.WK.Likely Classical
set_option linter.unusedSimpArgs false
set_option linter.unusedVariables false

/-- Is a school possible? and its weight as the program takes it. -/
def posF (m : List Int) (a b : Int) (x : S69) : Bool := can x.f1 m x.f2 x.f3 a b
def wIF (m : List Int) (a b : Int) (x : S69) : Int := wt x.f1 m x.f2 x.f3 a b * wU m 8
/-- What the program's parts say of valid schools. -/
theorem iParts {l : List S69} {m : List Int} {a b : Int} (hb : both l m a b = true) : (∀ x, x ∈ l → ∃ k, impl_isPossible.f k x.f0 x.f1 x.f2 x.f3 m a b = some (posF m a b x)) ∧ (∀ x, x ∈ l → posF m a b x = true → ∃ k, impl_weight.f k x.f0 x.f1 x.f2 x.f3 m a b = some (wIF m a b x)) := by
  refine ⟨fun x hx => ?_, fun x hx _ => ?_⟩
  all_goals
    obtain ⟨i, hi, rfl⟩ := List.mem_iff_getElem.1 hx
    obtain ⟨f1, f2, f3⟩ := fit_at hb i hi
    rw [nth_get hi] at f1 f2
  · exact (canBoth f1 l[i].f0 l[i].f2 l[i].f3 a b f2 f3).2.rounds
  · exact (weightBoth f1 l[i].f0 l[i].f2 l[i].f3 a b f2 f3).2.rounds
end Go.Proofs.Ytblihmohgfmpgaa.M

namespace Go.Proofs.YtblihmohgfmpgaaW.SL
open Go Go.RowKit Go.Proofs.YtblihmohgfmpgaaW.PrintWords
set_option linter.unusedSimpArgs false
set_option linter.unusedVariables false
/-- What append asks of an element type: its zero value, size and bytes. -/
structure ApT (P : Program) (T e size bytes : Nat) : Prop where
  und : P.underlying T = some (.slice e)
  inf : ∃ i z, P.info? e = some i ∧ i.zero = some z ∧ i.size = size ∧ i.bytes = bytes ∧ z.cells.size = size
  pos : 0 < size
theorem apT_of {P : Program} {T e size bytes : Nat} {z : Value} (hu : P.underlying T = some (.slice e)) (hi : (P.info? e).map (fun i => (i.zero, i.size, i.bytes)) = some (some z, size, bytes)) (hz : z.cells.size = size) (h0 : 0 < size) : ApT P T e size bytes := by
  obtain ⟨i, h1, h2⟩ := Option.map_eq_some_iff.1 hi
  simp only [Prod.mk.injEq] at h2
  exact ⟨hu, ⟨i, z, h1, h2.1, h2.2.1, h2.2.2, hz⟩, h0⟩
theorem map_range0 (f : Nat → Value) : Array.map f (Array.range 0) = #[] := by apply Array.toList_inj.1; rw [Array.toList_map, Array.toList_range]; rfl
theorem map_range1 (f : Nat → Value) : Array.map f (Array.range 1) = #[f 0] := by apply Array.toList_inj.1; rw [Array.toList_map, Array.toList_range]; rfl
section
variable {P : Program} {N : Nat} {B : Base} {L L' : Sl} {its its' : List Item} {ps ps' : List (World → Prop)} {Q : Exit → Act → World → Prop} {D : Dm} {k : Nat} {ops : Array Oper} {rest : List Oper} {o : Oper} {d T n m gx e bytes : Nat} {v v2 : Value} {x y z : Operand} {cs us : List Value} {α : Type} {dk : Kd α} {xs : List α}
/-- x = append(x, one element). -/
theorem Jl.app (p : α) (okp : Nat → Prop) (hw : wants ops L o = some true) (hop : o.op = .call { callee := .builtin .append, args := #[x, y], argTypes := #[T, T] }) (hd : o.dst = some d) (hN : Nat.blt d N = true) (hx : ev L x = some v) (hy : ev L y = some (.slice (some ⟨gx, 0, none⟩) 1 1))
    (hT : ApT P T e dk.sz bytes) (hb : Item.box gx e us ∈ its) (hul : us.length = dk.sz) (hM : ∀ w : World, dk.M w 0 (fun _ => False) p us) (hone : ∀ u ∈ us, u.oneCell' = true)
    (hn : OutAt (.row dk e 0 v xs) its its') (hl : (xs.length + 1) * bytes ≤ 140737488355328) (hl2 : xs.length + 1 ≤ 9223372036854775807)
    (h : ∀ A c, xs.length + 1 ≤ c → Jl P N B D (k + 1) ops Q rest ((d, .slice A (xs ++ [p]).length c) :: L) (.row dk e 0 (.slice A (xs ++ [p]).length c) (xs ++ [p]) :: its') ps) (hD : D.takes k = false := by rfl) (hEE : D.needs k = false := by rfl) : Jl P N B D k ops Q (o :: rest) L its ps := by
  obtain ⟨n, hn0, rfl⟩ := hn.at
  refine ⟨?_⟩
  intro a w hf hW
  have hbx := Box_at hW hb
  obtain ⟨i, zz, i1, i2, i3, i4, i5⟩ := hT.inf
  obtain ⟨A, g1, g2, g3⟩ := hW.beside hn0
  obtain ⟨r1, r2⟩ := g1
  obtain ⟨q0, inner, hown, hr⟩ := Kd.R_mono r1 (ok' := fun k => A k ∨ w.heap.size ≤ k) (fun k hk => .inl hk)
  obtain ⟨v', w', e1, e2, e3, _, e4⟩ := run_append_own_at (P := P) (w := w) 0 T o.type e i zz dk.sz bytes hT.und i1 i2 i3 i4 i5 hT.pos v xs.length inner hown ⟨gx, 0, none⟩ 1 1 us (by rw [hul, Nat.one_mul]) (fun j u hu => by
    have := Box_cells hbx 0 j u (by simpa using hu)
    simpa using this) hone (by simp only [maxLen]; omega) hl (Nat.zero_le _)
  have hR := Kd.R_appended q0 hr (hM w) (fun k hk => hk.elim) (fun k hk => .inr hk) e2 e3 (e4.imp id (fun h => ⟨_, h, Nat.le_refl _⟩))
  obtain ⟨A', c', rfl, hc', _⟩ := Kd.R_reads hR
  rw [List.length_append, List.length_singleton] at hc'
  have hAown : ∀ k, v.ownBlock = some k → A k := r1.1
  have haft : Aft A w w' := ⟨e3.os, e3.tape, e3.output, e3.size, fun k hk hnA => e3.block k hk (fun e => hnA (hAown k e.symm))⟩
  unfold runG
  rw [if_neg (by rw [hD]; simp), if_pos (hf.wants hw)]
  have hrun : (execOp a.eval o).run P w = .ok (.value (.slice A' (xs ++ [p]).length c')) w' := by
    unfold execOp; rw [hop]
    simp only [List.length_append, List.length_singleton] at e1 ⊢
    simp [resolve, invoke, builtin, hf.ev hx, hf.ev hy, e1]
  unfold Oper.wp
  rw [hrun, Oper.upon_value, hd]
  refine ⟨fun h' => (by rw [hEE] at h'; cases h'), ?_⟩
  exact h A' c' hc' _ _ (hf.put hN _) (g3 w' _ (fun k => (A k ∨ w.heap.size ≤ k) ∧ k < w'.heap.size) ⟨Kd.R_mono (Kd.R_bound hR) (fun k hk => ⟨hk.1, hk.2.2.1⟩), fun k hk => hk.2⟩ (fun k hk hlt => hk.1.resolve_right (by omega)) haft)
/-- A literal without elements. -/
theorem Jl.lit0 (dk : Kd α) {sz : Nat} (hw : wants ops L o = some true) (hop : o.op = .buildSlice T 0 #[]) (hd : o.dst = some d) (hN : Nat.blt d N = true) (hT : ElT P T e sz)
    (h : ∀ g, Jl P N B D (k + 1) ops Q rest ((d, .slice (some ⟨g, 0, none⟩) ([] : List α).length 0) :: L) (.row dk e 0 (.slice (some ⟨g, 0, none⟩) ([] : List α).length 0) ([] : List α) :: its) ps) (hD : D.takes k = false := by rfl) : Jl P N B D k ops Q (o :: rest) L its ps :=
  Jl.e (fun g : Nat => .slice (some ⟨g, 0, none⟩) ([] : List α).length 0) (fun g => .row dk e 0 (.slice (some ⟨g, 0, none⟩) ([] : List α).length 0) ([] : List α) :: its) (fun _ => ps) hw hd hN (fun a w hf hW => by
    have hTo := hT.out
    unfold elT at hTo
    cases hu : P.underlying T with
    | none => simp [hu] at hTo
    | some dd =>
      cases dd <;> simp [hu] at hTo
      rename_i e2
      obtain ⟨j, hj, rfl, rfl⟩ := hTo
      have hb : Below w.heap.size w (w.alloc (.cells #[] e2)) := below_alloc (Below.refl _ _) _
      refine ⟨w.heap.size, w.alloc (.cells #[] e2), ?_, fun _ => hb, hW.new hb (A := fun k => k = w.heap.size) ⟨⟨fun k hk => ?_, [], ⟨by simp, .inr ⟨w.heap.size, 0, #[], rfl, Nat.zero_le _, heap_alloc_new w _, Nat.le_refl _, Nat.zero_le _, by simp, by simp⟩⟩, Reps.none _ _⟩, fun k hk => by rw [hk]; simp⟩ (fun k hk => by rw [hk]; exact Nat.le_refl _)⟩
      · unfold execOp; rw [hop]
        simp [Instr.buildSlice, run_underlying hu, sizeOf, typeInfo, hj, Instr.fill, newRow, map_range0]
      · have : w.heap.size = k := by simpa [Value.ownBlock] using hk
        exact this.symm) h hD
/-- A literal of one element of one cell. -/
theorem Jl.lit1 {u z0 : Value} (hw : wants ops L o = some true) (hop : o.op = .buildSlice T 1 #[(0, x)]) (hd : o.dst = some d) (hN : Nat.blt d N = true) (hx : ev L x = some u) (hT : ElT P T e 1) (hz : ZeroT P e [z0]) (hu1 : u.oneCell' = true)
    (h : ∀ g, Jl P N B D (k + 1) ops Q rest ((d, .slice (some ⟨g, 0, none⟩) 1 1) :: L) (.box g e [u] :: its) ps) (hD : D.takes k = false := by rfl) : Jl P N B D k ops Q (o :: rest) L its ps :=
  Jl.e (fun g : Nat => .slice (some ⟨g, 0, none⟩) 1 1) (fun g => .box g e [u] :: its) (fun _ => ps) hw hd hN (fun a w hf hW => by
    have hTo := hT.out
    unfold elT at hTo
    obtain ⟨z, hz1, hz2⟩ := run_zeroT (w := w) hz.out
    have hzc : z.cells = #[z0] := by apply Array.toList_inj.1; rw [hz2]
    have huc : u.cells = #[u] := by cases u <;> first | rfl | cases hu1
    cases hu : P.underlying T with
    | none => simp [hu] at hTo
    | some dd =>
      cases dd <;> simp [hu] at hTo
      rename_i e2
      obtain ⟨j, hj, rfl, hj1⟩ := hTo
      refine ⟨w.heap.size, w.alloc (.cells #[u] e2), ?_, fun _ => below_alloc (Below.refl _ _) _, hW.alloc e2 #[u]⟩
      unfold execOp; rw [hop]
      simp [Instr.buildSlice, run_underlying hu, sizeOf, typeInfo, hj, hj1, hz1, hzc, Instr.fill, newRow, hf.ev hx, huc, map_range1]) h hD
end
end Go.Proofs.YtblihmohgfmpgaaW.SL

namespace Go.Proofs.YtblihmohgfmpgaaW.SL
open Go Go.RowKit Go.Proofs.YtblihmohgfmpgaaW.PrintWords
set_option linter.unusedSimpArgs false
set_option linter.unusedVariables false
section
variable {P : Program} {N : Nat} {B : Base} {L : Sl} {its : List Item} {ps : List (World → Prop)} {o : Oper} {T n m : Nat} {x : Operand} {ad ad' : Addr} {rows : List (List Value)} {us : List Value} {u : Value}
namespace Y
end Y
end
/-! #### items in another order, some left out -/
inductive Pick : List Item → List Item → Prop
  | nil {its} : Pick its []
  | cons {i : Item} {its r q} : OutAt i its r → Pick r q → Pick its (i :: q)
theorem Own.pick : ∀ {its its' : List Item} {w : World} {S : Nat → Prop}, Pick its its' → Own its w S → ∃ S', Own its' w S' ∧ ∀ k, S' k → S k
  | _, _, _, _, .nil, _ => ⟨fun _ => False, fun _ h => h, fun _ h => h.elim⟩
  | _, _, _, _, .cons ho hp, h => by
    obtain ⟨n, hn, rfl⟩ := ho.at
    obtain ⟨A, B, g1, g2, g3, g4⟩ := h.out hn
    obtain ⟨S', h1, h2⟩ := Own.pick hp g2
    exact ⟨fun k => A k ∨ S' k, ⟨A, S', g1, h1, fun _ => Iff.rfl, fun k ha hs => g4 k ha (h2 k hs)⟩, fun k hk => (g3 k).2 (hk.imp id (h2 k))⟩
theorem WS.pick {B : Base} {w : World} {its its' : List Item} {ps : List (World → Prop)} (hp : Pick its its') (h : WS B w its ps) : WS B w its' ps := by
  obtain ⟨h1, S, h2, h3, h4⟩ := h
  obtain ⟨S', g1, g2⟩ := Own.pick hp h2
  exact ⟨h1, S', g1, fun k hk => h3 k (g2 k hk), fun p hp => (h4 p hp).step (Aft.refl S w) (fun k hk _ => g2 k hk)⟩
section
variable {P : Program} {N : Nat} {B : Base} {L L' : Sl} {its its' : List Item} {ps ps' : List (World → Prop)} {Q : Exit → Act → World → Prop} {c c1 c2 : Code}
theorem Ej.cutP {K : Act → World → Prop} {ι : Type} (I : ι → Prop) (Lf : ι → Sl) (If : ι → List Item) (Pf : ι → List (World → Prop)) (hK : ∀ a w, (∃ i, I i ∧ Fr N a (Lf i) ∧ WS B w (If i) (Pf i)) → K a w) (i : ι) (hi : I i) (hL : Sub (Lf i) L) (hI : Pick its (If i)) (hp : ∀ p ∈ Pf i, p ∈ ps) : Ej N B K L its ps :=
  .mk <| fun a w hf hw => hK a w ⟨i, hi, hf.sub hL, (hw.pick hI).sub hp⟩
theorem Cj.pick (hp : Pick its its') (hs : ∀ p ∈ ps', p ∈ ps) (h : Cj P N B c Q L its' ps') : Cj P N B c Q L its ps := by
  refine ⟨?_⟩
  intro a w hf hw
  exact h a w hf ((hw.pick hp).sub hs)
/-- A loop; what it needs picked out of what there is. -/
theorem Cj.loopP {ι : Type} (I : ι → Prop) (Lf : ι → Sl) (If : ι → List Item) (Pf : ι → List (World → Prop)) (μ : ι → Nat) (hc : c = .loop c1) (i0 : ι) (h0 : I i0) (hL : Sub (Lf i0) L) (hI : Pick its (If i0)) (hp : ∀ p ∈ Pf i0, p ∈ ps)
    (h : ∀ i, I i → Cj P N B c1 (Exit.then (fun a w => ∃ j, (I j ∧ μ j < μ i) ∧ Fr N a (Lf j) ∧ WS B w (If j) (Pf j)) Q) (Lf i) (If i) (Pf i)) : Cj P N B c Q L its ps :=
  Cj.pick hI hp (Cj.loop I Lf If Pf μ hc i0 h0 hL rfl (fun _ h => h) h)
end
section
variable {P : Program} {N : Nat} {B : Base} {L : Sl} {its : List Item} {ps : List (World → Prop)} {o : Oper} {T n m : Nat} {x y : Operand} {ad ad' : Addr} {xs : List Int} {p q : Int}
namespace Y
/-- A number out of a row of numbers that is only read. -/
theorem loadI (hop : o.op = .load T x) (hx : ev L x = some (.pointer (some ad'))) (hT : ScT P T) (hp : (fun w => (Kd.int .i64).C w (some ad) n xs) ∈ ps) (i : Int) (h0 : 0 ≤ i) (h1 : i < (n : Int)) (had : ad' = ad.add (i.toNat * 1)) : Yd P N B o (.int .i64 (xs.getD i.toNat 0)) L its ps := .mk <| fun a w hf hW => by
  obtain ⟨ad2, c, e, hl, hr, hcell⟩ := ReadsRow.get_ (hW.fact hp) 0 i h0 h1
  injection e with e
  subst e
  have hc : c = [.int .i64 (xs.getD i.toNat 0)] := hr
  subst hc
  have h2 : w.cell? ad' = some (.int .i64 (xs.getD i.toNat 0)) := by rw [had]; exact hcell 0 _ rfl
  generalize Value.int .i64 (xs.getD i.toNat 0) = v at h2 ⊢
  unfold execOp; rw [hop]; simp [hf.ev hx, run_load_one hT.out h2]
theorem mx {ts : Array TypeId} (hop : o.op = .call { callee := .builtin .max, args := #[x, y], argTypes := ts }) (hx : ev L x = some (.int .i64 p)) (hy : ev L y = some (.int .i64 q)) : Yd P N B o (.int .i64 (if q > p then q else p)) L its ps := .mk <| fun a w hf _ => by
  unfold execOp; rw [hop]
  simp [resolve, invoke, builtin, Builtin.max_, Builtin.max2, hf.ev hx, hf.ev hy]
theorem mn {ts : Array TypeId} (hop : o.op = .call { callee := .builtin .min, args := #[x, y], argTypes := ts }) (hx : ev L x = some (.int .i64 p)) (hy : ev L y = some (.int .i64 q)) : Yd P N B o (.int .i64 (if q < p then q else p)) L its ps := .mk <| fun a w hf _ => by
  unfold execOp; rw [hop]
  simp [resolve, invoke, builtin, Builtin.min_, Builtin.min2, hf.ev hx, hf.ev hy]
end Y
end
end Go.Proofs.YtblihmohgfmpgaaW.SL

