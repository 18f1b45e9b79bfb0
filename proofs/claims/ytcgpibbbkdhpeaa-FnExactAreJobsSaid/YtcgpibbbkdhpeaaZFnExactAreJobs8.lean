/- The program's AreJobs returns what the reference's returns, for all arguments: no condition. -/
import Derived.Deep.Slices
import Derived.ChangeArms
import Derived.DataReads
import Derived.Carry
import Derived.KernelRfl
import Derived.Test.YtcgpibbbkdhpeaaRows
import Derived.WalkKit
import Derived.ProofKit
import Derived.OpenShut
import Derived.ShutString
import Derived.ChangeOld
import Derived.Below
import Derived.SizedLaws
import Derived.ChangeVars
import Derived.Test.YtcgpibbbkdhpeaaZFnExactAreJobs7
namespace Go.Proofs.YtcgpibbbkdhpeaaW.Open
open Go.ChangeShapes Go.WideShapes Go.Deep Go.Proofs.YtcgpibbbkdhpeaaW.PrintWords

/-- Whatever reads as data of type t lies in memory as a value of kind d that is good. -/
structure Opn {α : Type} (P : Program) (d : Kd α) (t : TypeId) (good : α → Prop) : Prop where
  out : ∀ {H : Type} {enc : TypeId × Value → H} {w : World} {base : Nat} {spare : Nat → Bool} {held : Bool} {fuel : Nat} {cs : List Value} {x : DataW H × List MemPlace},
    DataW.trod enc P w base spare held fuel t cs = some x → ∃ a, d.K w a cs ∧ good a

/-- One for each place: a list of them. -/
theorem list_of {α : Type} {Q : Nat → α → Prop} : ∀ {len : Nat}, (∀ i, i < len → ∃ p : α, Q i p) → ∃ l : List α, l.length = len ∧ ∀ i p, l[i]? = some p → Q i p
  | 0, _ => ⟨[], rfl, by simp⟩
  | n + 1, h => by
    obtain ⟨l, hl1, hl2⟩ := list_of (len := n) (fun i hi => h i (by omega))
    obtain ⟨p, hp⟩ := h n (by omega)
    refine ⟨l ++ [p], by simp [hl1], fun i q hq => ?_⟩
    by_cases hil : i < n
    · rw [List.getElem?_append_left (by omega)] at hq
      exact hl2 i q hq
    · have hin : i = n := by
        have := (List.getElem?_eq_some_iff.1 hq).1
        simp [hl1] at this
        omega
      subst hin
      rw [List.getElem?_append_right (by omega)] at hq
      simp [hl1] at hq
      subst hq
      exact hp

section
variable {P : Program}
theorem Opn.int {t : TypeId} {k : IntKind} (ht : P.underlying t = some (.int k)) : Opn P (Kd.int k) t (fun n => (Lit.int k n).wf = true) := by
  constructor; intro H enc w base spare held fuel cs x h
  cases fuel with
  | zero => simp [DataW.trod] at h
  | succ m =>
    unfold DataW.trod at h
    rw [ht] at h
    split at h <;> simp_all
    exact ⟨_, rfl, by simp_all⟩
theorem Opn.bool {t : TypeId} (ht : P.underlying t = some .bool) : Opn P Kd.bool t (fun _ => True) := by
  constructor; intro H enc w base spare held fuel cs x h
  cases fuel with
  | zero => simp [DataW.trod] at h
  | succ m =>
    unfold DataW.trod at h
    rw [ht] at h
    split at h
    all_goals first | exact ⟨_, rfl, trivial⟩ | simp_all
theorem Opn.slice {α : Type} {d : Kd α} {t e : TypeId} {g : α → Prop} (ht : P.underlying t = some (.slice e)) {n0 : Nat} (hc0 : P.cellsOf e = n0) (hs0 : d.sz = n0) (he : Opn P d e g) :
    Opn P (Kd.slice e d) t (fun l => l.length ≤ maxLen ∧ ∀ x ∈ l, g x) := by
  have hc : P.cellsOf e = d.sz := hc0.trans hs0.symm
  constructor; intro H enc w base spare held fuel cs x h
  rcases open_slice ht h with ⟨rfl, _⟩ | ⟨a, len, cap, m, n, D, Pl, rfl, _, hl, hm, hmm, _, hi⟩
  · exact ⟨[], ⟨none, 0, rfl, Nat.le_refl _, rfl, by simp, fun h => absurd h (by simp)⟩, by simp, by simp⟩
  · have hlm : len ≤ m := by rw [hmm]; split <;> omega
    have hone : ∀ i, i < len → ∃ p : α, g p ∧ ∃ c, c.length = d.sz ∧ d.K w p c ∧ ∀ j u, c[j]? = some u → w.cell? (a.add (i * d.sz + j)) = some u := by
      intro i hil
      obtain ⟨cs', hcs, htr⟩ := hi i (by omega)
      obtain ⟨p, hp, hg⟩ := he.out htr
      obtain ⟨_, hlen, hat⟩ := World.cells?_some hcs
      refine ⟨p, hg, cs', hlen.trans hc, hp, fun j u hj => ?_⟩
      have hjl : j < P.cellsOf e := by have := (List.getElem?_eq_some_iff.1 hj).1; omega
      have := hat j hjl
      rw [hc] at this
      rw [← Go.Deep.add_add, this, hj]
    have hall := list_of hone
    obtain ⟨l, rfl, hl2⟩ := hall
    refine ⟨l, ⟨some a, cap, rfl, hl, rfl, by unfold maxLen at hm; omega, fun _ => ⟨a, rfl, fun j p hj => (hl2 j p hj).2⟩⟩, by omega, fun x hx => ?_⟩
    obtain ⟨i, hi, rfl⟩ := List.getElem_of_mem hx
    exact (hl2 i _ (List.getElem?_eq_getElem hi)).1
theorem Opn.iso {α β : Type} {d : Kd α} {t : TypeId} {g : α → Prop} (f : β → α) (b : α → β) (hfb : ∀ a, f (b a) = a) (h : Opn P d t g) : Opn P (Kd.iso d f) t (fun x => g (f x)) := by
  constructor; intro H enc w base spare held fuel cs x hx
  obtain ⟨a, hk, hg⟩ := h.out hx
  exact ⟨b a, by show d.K w (f (b a)) cs; rw [hfb]; exact hk, by show g (f (b a)); rw [hfb]; exact hg⟩

def andG {α β : Type} (g : α → Prop) (gs : β → Prop) : α × β → Prop := fun x => g x.1 ∧ gs x.2
/-- The fields of a struct, from one on. -/
structure OpnF {α : Type} (P : Program) (d : Kd α) (off : Nat) (fs : List Field) (good : α → Prop) : Prop where
  out : ∀ {H : Type} {enc : TypeId × Value → H} {w : World} {base : Nat} {spare : Nat → Bool} {held : Bool} {fuel : Nat} {cs : List Value},
    cs.length = off + d.sz → (∀ f ∈ fs, ∃ y, DataW.trod enc P w base spare held fuel f.type ((cs.drop f.offset).take (P.cellsOf f.type)) = some y) → ∃ a, d.K w a (cs.drop off) ∧ good a
theorem OpnF.one {α : Type} {d : Kd α} {f : Field} {g : α → Prop} {off : Nat} (ho : f.offset = off) {n0 : Nat} (hc0 : P.cellsOf f.type = n0) (hs0 : d.sz = n0) (h : Opn P d f.type g) : OpnF P d off [f] g := by
  have hc : P.cellsOf f.type = d.sz := hc0.trans hs0.symm
  constructor; intro H enc w base spare held fuel cs hl hf
  obtain ⟨y, hy⟩ := hf f (by simp)
  rw [ho, hc, List.take_of_length_le (by simp; omega)] at hy
  exact h.out hy
theorem OpnF.cons {α β : Type} {d : Kd α} {ds : Kd β} {f : Field} {fs : List Field} {g : α → Prop} {gs : β → Prop} {off : Nat} (ho : f.offset = off) {n0 : Nat} (hc0 : P.cellsOf f.type = n0) (hs0 : d.sz = n0) (h : Opn P d f.type g) (hs : OpnF P ds (off + d.sz) fs gs) :
    OpnF P (Kd.pair d ds) off (f :: fs) (andG g gs) := by
  have hc : P.cellsOf f.type = d.sz := hc0.trans hs0.symm
  constructor; intro H enc w base spare held fuel cs hl hf
  obtain ⟨y, hy⟩ := hf f (by simp)
  rw [ho, hc] at hy
  obtain ⟨a, ha, hga⟩ := h.out hy
  obtain ⟨b, hb, hgb⟩ := hs.out (cs := cs) (by rw [hl]; show off + (d.sz + ds.sz) = _; omega) (fun f' hf' => hf f' (List.mem_cons_of_mem _ hf'))
  refine ⟨(a, b), ⟨_, _, ?_, ha, hb⟩, hga, hgb⟩
  rw [← List.drop_drop, List.take_append_drop]
theorem Opn.struct {α : Type} {d : Kd α} {t : TypeId} {L : List Field} {g : α → Prop} (ht : P.underlying t = some (.struct L.toArray)) {n0 : Nat} (hc0 : P.cellsOf t = n0) (hs0 : d.sz = n0) (h : OpnF P d 0 L g) : Opn P d t g := by
  have hc : P.cellsOf t = d.sz := hc0.trans hs0.symm
  constructor; intro H enc w base spare held fuel cs x hx
  obtain ⟨xs, n, _, _, hlen, hxs, hf⟩ := DataW.trod_struct ht hx
  obtain ⟨a, ha, hg⟩ := h.out (enc := enc) (w := w) (base := base) (spare := spare) (held := held) (fuel := n) (cs := cs) (by rw [hlen, hc]; omega) (fun f hm => by
    obtain ⟨i, hi, rfl⟩ := List.getElem_of_mem hm
    have h1 := hf i L[i] (by simp [hi])
    have hi2 : i < xs.length := by simp at hxs; omega
    exact ⟨xs[i], h1.trans (List.getElem?_eq_getElem hi2)⟩)
  exact ⟨a, by simpa using ha, hg⟩
end
end Go.Proofs.YtcgpibbbkdhpeaaW.Open

namespace Go.Proofs.Ytcgpibbbkdhpeaa.Q
open Go.RowKit Go.Proofs.YtcgpibbbkdhpeaaW.PrintWords Go.Proofs.YtcgpibbbkdhpeaaW.PrintLast Go.Proofs.YtcgpibbbkdhpeaaW.PrintMore
set_option linter.unusedVariables false
set_option linter.unusedSimpArgs false

open Go.Proofs.YtcgpibbbkdhpeaaW.Open
def g57 (x : S57) : Prop := (Lit.int .i64 x.f0).wf = true ∧ (Lit.int .i64 x.f1).wf = true ∧ (Lit.int .i64 x.f2).wf = true ∧ (Lit.int .i64 x.f3).wf = true ∧ (Lit.int .i64 x.f4).wf = true
theorem opn57 : Opn Try.prog k57 57 g57 := by
  show Opn Try.prog (Kd.iso (Kd.pair (Kd.int .i64) (Kd.pair (Kd.int .i64) (Kd.pair (Kd.int .i64) (Kd.pair (Kd.int .i64) (Kd.int .i64))))) (fun x : S57 => (x.f0, x.f1, x.f2, x.f3, x.f4))) 57 (fun x : S57 => (andG (fun x => (Lit.int .i64 x).wf = true) (andG (fun x => (Lit.int .i64 x).wf = true) (andG (fun x => (Lit.int .i64 x).wf = true) (andG (fun x => (Lit.int .i64 x).wf = true) (fun x => (Lit.int .i64 x).wf = true))))) ((fun x : S57 => (x.f0, x.f1, x.f2, x.f3, x.f4)) x))
  refine Opn.iso (g := (andG (fun x => (Lit.int .i64 x).wf = true) (andG (fun x => (Lit.int .i64 x).wf = true) (andG (fun x => (Lit.int .i64 x).wf = true) (andG (fun x => (Lit.int .i64 x).wf = true) (fun x => (Lit.int .i64 x).wf = true)))))) (fun x : S57 => (x.f0, x.f1, x.f2, x.f3, x.f4)) (fun a : Int × Int × Int × Int × Int => (⟨a.1, a.2.1, a.2.2.1, a.2.2.2.1, a.2.2.2.2⟩ : S57)) (fun _ => rfl) ?_
  refine Opn.struct Try.underlying57 (n0 := 5) (by kernel_rfl) rfl ?_
  refine OpnF.cons (n0 := 1) rfl ?_ rfl ?_ ?_
  · kernel_rfl
  · exact (Opn.int Try.underlying3)
  refine OpnF.cons (n0 := 1) rfl ?_ rfl ?_ ?_
  · kernel_rfl
  · exact (Opn.int Try.underlying3)
  refine OpnF.cons (n0 := 1) rfl ?_ rfl ?_ ?_
  · kernel_rfl
  · exact (Opn.int Try.underlying3)
  refine OpnF.cons (n0 := 1) rfl ?_ rfl ?_ ?_
  · kernel_rfl
  · exact (Opn.int Try.underlying3)
  refine OpnF.one (n0 := 1) rfl ?_ rfl ?_
  · kernel_rfl
  · exact (Opn.int Try.underlying3)
end Go.Proofs.Ytcgpibbbkdhpeaa.Q

namespace Go.Proofs.Ytcgpibbbkdhpeaa.Q
open Go.RowKit Go.Proofs.YtcgpibbbkdhpeaaW.PrintWords Go.Proofs.YtcgpibbbkdhpeaaW.PrintLast Go.Proofs.YtcgpibbbkdhpeaaW.PrintMore
set_option linter.unusedVariables false
set_option linter.unusedSimpArgs false

/-- THE ONE PURE STATEMENT of laws_FnExactAreJobs. -/
def laws_FnExactAreJobs.Pure : Prop := ∀ (l0 : List (S57)), (l0.length ≤ maxLen ∧ ∀ x ∈ l0, g57 x) → ∃ k, laws_FnExactAreJobs.f k l0 = some true
theorem laws_FnExactAreJobs.walk (P : laws_FnExactAreJobs.Pure) (l0 : List (S57)) (A0 : Option Addr) (c0 : Nat) (w : World) (hr0 : Kd.C k57 w A0 l0.length l0) (hc0 : l0.length ≤ c0) (q0 : (l0.length ≤ maxLen ∧ ∀ x ∈ l0, g57 x)) :
    Calls Try.prog 3 #[.slice A0 l0.length c0] w fun e w' => e = .returned (.bool true) ∧ Below w.heap.size w w' := by
  obtain ⟨k, h⟩ := P l0 q0
  refine (laws_FnExactAreJobs.calls (k := k) (r := true) (w := w) (hr0 := hr0) (hc0 := hc0) (h := h)).mono ?_
  rintro e w' ⟨rfl, hd⟩
  exact ⟨rfl, hd⟩
end Go.Proofs.Ytcgpibbbkdhpeaa.Q

namespace Go.Proofs.YtcgpibbbkdhpeaaW.Pl
open Go.RowKit Go.Proofs.YtcgpibbbkdhpeaaW.PrintWords Classical

theorem w64 {x : Int} (h : -9223372036854775808 ≤ x ∧ x ≤ 9223372036854775807) : wrap64 x = x := by unfold wrap64; omega
/-- A loop that fills a list place by place. -/
theorem fill_gen {α β : Type} (l : List α) (conv : α → β) (loop : Nat → List β → Int → Option (List β))
    (hstep : ∀ k (acc : List β) (i : Nat) (hi : i < l.length), acc.length = l.length → loop (k + 1) acc (i : Int) = loop k (acc.set i (conv l[i])) ((i + 1 : Nat) : Int))
    (hend : ∀ k (acc : List β), loop (k + 1) acc (l.length : Int) = some acc) (k : Nat) (hk : l.length < k) (acc : List β) (hacc : acc.length = l.length) : loop k acc 0 = some (l.map conv) := by
  have main : ∀ d (i : Nat) (k : Nat) (acc : List β), l.length - i = d → i ≤ l.length → d < k → acc.length = l.length → (∀ j (hj : j < i) (h2 : j < acc.length) (h3 : j < l.length), acc[j] = conv l[j]) → loop k acc (i : Int) = some (l.map conv) := by
    intro d
    induction d with
    | zero =>
      intro i k acc hd hi hk ha hj
      obtain ⟨k, rfl⟩ : ∃ m, k = m + 1 := ⟨k - 1, by omega⟩
      have : i = l.length := by omega
      subst this
      rw [hend]
      congr 1
      apply List.ext_getElem (by simp [ha])
      intro j h1 h2
      simp only [List.getElem_map]
      exact hj j (by omega) h1 (by omega)
    | succ d ih =>
      intro i k acc hd hi hk ha hj
      obtain ⟨k, rfl⟩ : ∃ m, k = m + 1 := ⟨k - 1, by omega⟩
      rw [hstep k acc i (by omega) ha]
      refine ih (i + 1) k _ (by omega) (by omega) (by omega) (by simp [ha]) ?_
      intro j h1 h2 h3
      by_cases e : j = i
      · subst e; simp
      · rw [List.getElem_set_ne (by omega)]
        exact hj j (by omega) (by simpa using h2) h3
  exact main l.length 0 k acc (by omega) (by omega) hk hacc (fun j hj => by omega)

/-- A place of a list (a word that simp leaves alone). -/
def nth {α : Type} (l : List α) (i : Nat) (z : α) : α := l.getD i z
theorem nth_get {α : Type} {l : List α} {i : Nat} {z : α} (h : i < l.length) : nth l i z = l[i] := by
  unfold nth; rw [List.getD_eq_getElem?_getD, List.getElem?_eq_getElem h]; rfl
theorem all_iff_nth {α : Type} {l : List α} {p : α → Bool} (z : α) : l.all p = true ↔ ∀ i, i < l.length → p (nth l i z) = true := by
  rw [List.all_eq_true]
  constructor
  · intro h i hi
    rw [nth_get hi]; exact h _ (List.getElem_mem hi)
  · intro h x hx
    obtain ⟨i, hi, rfl⟩ := List.getElem_of_mem hx
    have := h i hi
    rwa [nth_get hi] at this
theorem range_all {n : Nat} {p : Nat → Bool} : (List.range n).all p = true ↔ ∀ i, i < n → p i = true := by
  rw [List.all_eq_true]; simp
/-- What the size's check lets in. -/
theorem sz_small {n : Nat} (hm : n ≤ maxLen) : (wrap64 (1048576 - (n : Int)) < 0) ↔ 1048576 < n := by
  unfold maxLen at hm
  rw [w64 (by omega)]; omega
/-! ### with 'from some number of rounds on' -/
theorem Ev.succ {α : Type} {g : Nat → Option α} {r : α} (h : Ev (fun k => g (k + 1)) r) : Ev g r := Ev.step (fun _ => rfl) h
theorem Ev.c {α : Type} {x : Option α} {r : α} (h : x = some r) : Ev (fun _ => x) r := ⟨0, fun _ _ => h⟩
theorem scanE {γ : Type} (n : Nat) (ok : Nat → Bool) (e bad : γ) (loop : Nat → Int → Option γ)
    (hs : ∀ (i : Nat) (r : γ), i < n → ok i = true → Ev (fun k => loop k ((i + 1 : Nat) : Int)) r → Ev (fun k => loop k (i : Int)) r)
    (hb : ∀ (i : Nat), i < n → ok i = false → Ev (fun k => loop k (i : Int)) bad)
    (he : Ev (fun k => loop k (n : Int)) e) : Ev (fun k => loop k 0) (if (List.range n).all ok = true then e else bad) := by
  have main : ∀ d (i : Nat), n - i = d → i ≤ n → Ev (fun k => loop k (i : Int)) (if (∀ j, i ≤ j → j < n → ok j = true) then e else bad) := by
    intro d
    induction d with
    | zero =>
      intro i hd hi
      have : i = n := by omega
      subst this
      rw [if_pos (fun j h1 h2 => by omega)]; exact he
    | succ d ih =>
      intro i hd hi
      cases ho : ok i with
      | true =>
        refine hs i _ (by omega) ho ?_
        have := ih (i + 1) (by omega) (by omega)
        by_cases hall : ∀ j, i ≤ j → j < n → ok j = true
        · rw [if_pos hall]; rwa [if_pos (fun j h1 h2 => hall j (by omega) h2)] at this
        · rw [if_neg hall]; rwa [if_neg (fun h => hall (fun j h1 h2 => by
            by_cases e : j = i
            · subst e; exact ho
            · exact h j (by omega) h2))] at this
      | false =>
        rw [if_neg (fun h => by have := h i (by omega) (by omega); rw [ho] at this; cases this)]
        exact hb i (by omega) ho
  have := main n 0 (by omega) (by omega)
  by_cases hall : ∀ j, 0 ≤ j → j < n → ok j = true
  · rw [if_pos hall] at this
    rw [if_pos (List.all_eq_true.2 (fun j hj => hall j (by omega) (by simpa using hj)))]
    exact this
  · rw [if_neg hall] at this
    rw [if_neg (fun h => hall (fun j _ h2 => List.all_eq_true.1 h j (by simpa using h2)))]
    exact this
theorem stepI (n : Nat) (h : n < 4611686018427387904) : wrap64 ((n : Int) + 1) = ((n + 1 : Nat) : Int) := by
  rw [w64 (by omega)]
  rfl
theorem predI (n : Nat) (h : 1 ≤ n ∧ n < 4611686018427387904) : wrap64 ((n : Int) - 1) = ((n - 1 : Nat) : Int) := by
  rw [w64 (by omega)]
  omega
end Go.Proofs.YtcgpibbbkdhpeaaW.Pl

namespace Go.Proofs.Ytcgpibbbkdhpeaa.Q
open Go.RowKit Go.Proofs.YtcgpibbbkdhpeaaW.PrintWords Go.Proofs.YtcgpibbbkdhpeaaW.PrintLast Go.Proofs.YtcgpibbbkdhpeaaW.PrintMore
set_option linter.unusedVariables false
set_option linter.unusedSimpArgs false

/-- THE ONE PURE STATEMENT of laws_FnExactEndsOf. -/
def laws_FnExactEndsOf.Pure : Prop := ∀ (l0 : List (S57)) (l1 : List Int) (l2 : List Int), (l0.length ≤ maxLen ∧ ∀ x ∈ l0, g57 x) → (l1.length ≤ maxLen ∧ ∀ x ∈ l1, (Lit.int .i64 x).wf = true) → (l2.length ≤ maxLen ∧ ∀ x ∈ l2, (Lit.int .i64 x).wf = true) → ∃ k, laws_FnExactEndsOf.f k l0 l1 l2 = some true
theorem laws_FnExactEndsOf.walk (P : laws_FnExactEndsOf.Pure) (l0 : List (S57)) (l1 : List Int) (l2 : List Int) (A0 : Option Addr) (c0 : Nat) (A1 : Option Addr) (c1 : Nat) (A2 : Option Addr) (c2 : Nat) (w : World) (hr0 : Kd.C k57 w A0 l0.length l0) (hc0 : l0.length ≤ c0) (hr1 : Kd.C (Kd.int .i64) w A1 l1.length l1) (hc1 : l1.length ≤ c1) (hr2 : Kd.C (Kd.int .i64) w A2 l2.length l2) (hc2 : l2.length ≤ c2) (q0 : (l0.length ≤ maxLen ∧ ∀ x ∈ l0, g57 x)) (q1 : (l1.length ≤ maxLen ∧ ∀ x ∈ l1, (Lit.int .i64 x).wf = true)) (q2 : (l2.length ≤ maxLen ∧ ∀ x ∈ l2, (Lit.int .i64 x).wf = true)) :
    Calls Try.prog 9 #[.slice A0 l0.length c0, .slice A1 l1.length c1, .slice A2 l2.length c2] w fun e w' => e = .returned (.bool true) ∧ Below w.heap.size w w' := by
  obtain ⟨k, h⟩ := P l0 l1 l2 q0 q1 q2
  refine (laws_FnExactEndsOf.calls (k := k) (r := true) (w := w) (hr0 := hr0) (hc0 := hc0) (hr1 := hr1) (hc1 := hc1) (hr2 := hr2) (hc2 := hc2) (h := h)).mono ?_
  rintro e w' ⟨rfl, hd⟩
  exact ⟨rfl, hd⟩
end Go.Proofs.Ytcgpibbbkdhpeaa.Q

namespace Go.Proofs.Ytcgpibbbkdhpeaa.Q
open Go.RowKit Go.Proofs.YtcgpibbbkdhpeaaW.PrintWords Go.Proofs.YtcgpibbbkdhpeaaW.PrintLast Go.Proofs.YtcgpibbbkdhpeaaW.PrintMore
set_option linter.unusedVariables false
set_option linter.unusedSimpArgs false

/-- THE ONE PURE STATEMENT of laws_FnExactIsLoomPlan. -/
def laws_FnExactIsLoomPlan.Pure : Prop := ∀ (l0 : List (S57)) (l1 : List Int) (l2 : List Int), (l0.length ≤ maxLen ∧ ∀ x ∈ l0, g57 x) → (l1.length ≤ maxLen ∧ ∀ x ∈ l1, (Lit.int .i64 x).wf = true) → (l2.length ≤ maxLen ∧ ∀ x ∈ l2, (Lit.int .i64 x).wf = true) → ∃ k, laws_FnExactIsLoomPlan.f k l0 l1 l2 = some true
theorem laws_FnExactIsLoomPlan.walk (P : laws_FnExactIsLoomPlan.Pure) (l0 : List (S57)) (l1 : List Int) (l2 : List Int) (A0 : Option Addr) (c0 : Nat) (A1 : Option Addr) (c1 : Nat) (A2 : Option Addr) (c2 : Nat) (w : World) (hr0 : Kd.C k57 w A0 l0.length l0) (hc0 : l0.length ≤ c0) (hr1 : Kd.C (Kd.int .i64) w A1 l1.length l1) (hc1 : l1.length ≤ c1) (hr2 : Kd.C (Kd.int .i64) w A2 l2.length l2) (hc2 : l2.length ≤ c2) (q0 : (l0.length ≤ maxLen ∧ ∀ x ∈ l0, g57 x)) (q1 : (l1.length ≤ maxLen ∧ ∀ x ∈ l1, (Lit.int .i64 x).wf = true)) (q2 : (l2.length ≤ maxLen ∧ ∀ x ∈ l2, (Lit.int .i64 x).wf = true)) :
    Calls Try.prog 4 #[.slice A0 l0.length c0, .slice A1 l1.length c1, .slice A2 l2.length c2] w fun e w' => e = .returned (.bool true) ∧ Below w.heap.size w w' := by
  obtain ⟨k, h⟩ := P l0 l1 l2 q0 q1 q2
  refine (laws_FnExactIsLoomPlan.calls (k := k) (r := true) (w := w) (hr0 := hr0) (hc0 := hc0) (hr1 := hr1) (hc1 := hc1) (hr2 := hr2) (hc2 := hc2) (h := h)).mono ?_
  rintro e w' ⟨rfl, hd⟩
  exact ⟨rfl, hd⟩
end Go.Proofs.Ytcgpibbbkdhpeaa.Q

namespace Go.Proofs.Ytcgpibbbkdhpeaa.M
open Go.RowKit Go.Proofs.Ytcgpibbbkdhpeaa.Q Go.Proofs.YtcgpibbbkdhpeaaW.PrintWords Go.Proofs.YtcgpibbbkdhpeaaW.PrintLast Go.Proofs.YtcgpibbbkdhpeaaW.Pl Classical
set_option linter.unusedSimpArgs false
set_option linter.unusedVariables false

theorem rd51 (l : List S51) (i : Nat) : rd_T51 l (i : Int) = nth l i z51 := by unfold rd_T51 nth; simp
theorem rd57 (l : List S57) (i : Nat) : rd_T57 l (i : Int) = nth l i z57 := by unfold rd_T57 nth; simp
theorem szLoomJobs (l : List S57) (hm : l.length ≤ maxLen) : ∃ r, laws_szLoomJobS.f l 1048576 = some r ∧ (r < 0 ↔ 1048576 < l.length) := by
  unfold laws_szLoomJobS.f
  have := sz_small hm
  by_cases h : wrap64 (1048576 - (l.length : Int)) < 0
  · exact ⟨-1, by rw [if_pos h], by rw [← this]; exact ⟨fun _ => h, fun _ => by omega⟩⟩
  · exact ⟨_, by rw [if_neg h], this⟩
def cvLoomJob (x : S57) : S51 := ⟨x.f0, x.f1, x.f2, x.f3, x.f4⟩
theorem toLoomJobs (l : List S57) (hm : l.length ≤ 1048576) : Ev (fun k => laws_toLoomJobS.f k l) (l.map cvLoomJob) := by
  refine ⟨l.length + 1, fun k hk => ?_⟩
  show laws_toLoomJobS.f k l = _
  unfold laws_toLoomJobS.f
  rw [if_pos (by omega), if_pos (by omega)]
  have h := fill_gen l cvLoomJob (fun k acc i => laws_toLoomJobS.l0 k l acc i) ?hstep ?hend k hk (List.replicate l.length z51) (by simp)
  case hstep =>
    intro k acc i hi ha
    simp only [laws_toLoomJobS.l0]
    rw [if_pos (by omega), if_pos (by omega), rd57, nth_get hi]
    simp only [laws_toLoomJob.f, Option.bind_some]
    rw [if_pos (by omega), w64 (x := (i : Int) + 1) (by omega)]
    rfl
  case hend =>
    intro k acc
    simp [laws_toLoomJobS.l0]
  simpa using h
theorem eqLoomJobs (l : List S51) (hm : l.length ≤ 1048576) : Ev (fun k => laws_eqLoomJobS.f k l l) true := by
  unfold laws_eqLoomJobS.f
  simp only [if_true]
  have h := scanE l.length (fun _ => true) true false (fun k i => laws_eqLoomJobS.l0 k l l i) ?hs ?hb ?he
  case hs =>
    intro i r hi _ hr
    refine Ev.succ ?_
    simp only [laws_eqLoomJobS.l0, laws_eqLoomJob.f, if_pos (show (i : Int) < (l.length : Int) by omega), if_pos (show (0 : Int) ≤ (i : Int) by omega), if_true, Option.bind_some, w64 (x := (i : Int) + 1) (by omega)]
    exact hr
  case hb => intro i _ h; cases h
  case he =>
    refine Ev.succ ?_
    simp only [laws_eqLoomJobS.l0, if_neg (show ¬ ((l.length : Int) < (l.length : Int)) by omega)]
    exact Ev.now _
  simpa using h
theorem l1In (a b c : Int) : spec_l1In.f a b c = some (decide (b ≤ a ∧ a ≤ c)) := by
  unfold spec_l1In.f
  by_cases h : b ≤ a <;> by_cases h2 : a ≤ c <;> simp [h, h2]
theorem iIn (a b c : Int) : impl_in.f a b c = some (decide (b ≤ a ∧ a ≤ c)) := by
  unfold impl_in.f
  by_cases h : b ≤ a <;> by_cases h2 : a ≤ c <;> simp [h, h2]
/-- A valid job. -/
def okF (a b c d e : Int) : Bool := decide ((1 ≤ a ∧ a ≤ 99) ∧ (1 ≤ b ∧ b ≤ 500) ∧ (1 ≤ c ∧ c ≤ 400) ∧ (0 ≤ d ∧ d ≤ 4000) ∧ (0 ≤ e ∧ e ≤ 4000) ∧ d ≤ e)
def okJ (x : S51) : Bool := okF x.f0 x.f1 x.f2 x.f3 x.f4
theorem iValid (x : S51) : impl_LoomJob_isValid.f x.f0 x.f1 x.f2 x.f3 x.f4 = some (okJ x) := by
  unfold impl_LoomJob_isValid.f impl_isId.f impl_isJobWide.f impl_isDay.f okJ okF
  simp only [iIn, Option.bind_some]
  repeat' split
  all_goals (simp_all <;> omega)
def ascAt (l : List S51) (i : Nat) : Bool := decide (i = 0) || decide ((nth l (i - 1) z51).f0 < (nth l i z51).f0)
/-- Valid jobs, in order. -/
def goodJ (l : List S51) : Bool := decide (l.length ≤ 6) && (List.range l.length).all fun i => okJ (nth l i z51) && ascAt l i
theorem sJobs (l : List S51) (hm : l.length ≤ 1048576) : Ev (fun k => spec_l16Jobs.f k l) (goodJ l) := by
  unfold spec_l16Jobs.f
  have h := scanE l.length (fun i => okJ (nth l i z51) && ascAt l i) (decide (l.length ≤ 6)) false (fun k i => spec_l16Jobs.l0 k l i) ?hs ?hb ?he
  case hs =>
    intro i r hi ho hr
    refine Ev.succ ?_
    rw [Bool.and_eq_true] at ho
    obtain ⟨h1, h2⟩ := ho
    unfold okJ okF at h1
    have h1 := of_decide_eq_true h1
    unfold ascAt at h2
    simp only [Bool.or_eq_true, decide_eq_true_iff] at h2
    simp only [spec_l16Jobs.l0, spec_l2Day.f, rd51, l1In, Option.bind_some, if_pos (show (i : Int) < (l.length : Int) by omega), if_pos (show (0 : Int) ≤ (i : Int) by omega), h1, and_self, decide_true, if_true, stepI i (by omega), if_neg (show ¬ ((nth l i z51).f4 < (nth l i z51).f3) by omega)]
    by_cases h0 : i = 0
    · subst h0
      simp only [if_neg (show ¬ (((0 : Nat) : Int) > 0) by omega)]
      exact hr
    · simp only [if_pos (show (i : Int) > 0 by omega), predI i (by omega), if_pos (show (0 : Int) ≤ ((i - 1 : Nat) : Int) by omega), if_pos (show ((i - 1 : Nat) : Int) < (l.length : Int) by omega), rd51]
      simp only [if_neg (show ¬ ((nth l (i - 1) z51).f0 ≥ (nth l i z51).f0) by omega)]
      exact hr
  case hb =>
    intro i hi ho
    refine Ev.succ ?_
    simp only [spec_l16Jobs.l0, spec_l2Day.f, rd51, l1In, Option.bind_some, if_pos (show (i : Int) < (l.length : Int) by omega), if_pos (show (0 : Int) ≤ (i : Int) by omega)]
    by_cases h1 : okJ (nth l i z51) = true
    · rw [h1, Bool.true_and] at ho
      unfold ascAt at ho
      rw [Bool.or_eq_false_iff, decide_eq_false_iff_not, decide_eq_false_iff_not] at ho
      unfold okJ okF at h1
      have h1 := of_decide_eq_true h1
      simp only [h1, and_self, decide_true, if_true, if_neg (show ¬ ((nth l i z51).f4 < (nth l i z51).f3) by omega), if_pos (show (i : Int) > 0 by omega), predI i (by omega), if_pos (show (0 : Int) ≤ ((i - 1 : Nat) : Int) by omega), if_pos (show ((i - 1 : Nat) : Int) < (l.length : Int) by omega), rd51]
      simp only [if_pos (show (nth l (i - 1) z51).f0 ≥ (nth l i z51).f0 by omega)]
      exact Ev.now _
    · unfold okJ okF at h1
      rw [decide_eq_true_iff] at h1
      by_cases g1 : 1 ≤ (nth l i z51).f0 ∧ (nth l i z51).f0 ≤ 99 <;> simp only [g1, and_self, decide_true, decide_false, if_true, Bool.false_eq_true, if_false]
      · by_cases g2 : 1 ≤ (nth l i z51).f1 ∧ (nth l i z51).f1 ≤ 500 <;> simp only [g2, and_self, decide_true, decide_false, if_true, Bool.false_eq_true, if_false]
        · by_cases g3 : 1 ≤ (nth l i z51).f2 ∧ (nth l i z51).f2 ≤ 400 <;> simp only [g3, and_self, decide_true, decide_false, if_true, Bool.false_eq_true, if_false]
          · by_cases g4 : 0 ≤ (nth l i z51).f3 ∧ (nth l i z51).f3 ≤ 4000 <;> simp only [g4, and_self, decide_true, decide_false, if_true, Bool.false_eq_true, if_false]
            · by_cases g5 : 0 ≤ (nth l i z51).f4 ∧ (nth l i z51).f4 ≤ 4000 <;> simp only [g5, and_self, decide_true, decide_false, if_true, Bool.false_eq_true, if_false]
              · simp only [if_pos (show (nth l i z51).f4 < (nth l i z51).f3 by omega)]
                exact Ev.now _
              · exact Ev.now _
            · exact Ev.now _
          · exact Ev.now _
        · exact Ev.now _
      · exact Ev.now _
  case he =>
    refine Ev.succ ?_
    simp only [spec_l16Jobs.l0, if_neg (show ¬ ((l.length : Int) < (l.length : Int)) by omega)]
    refine Ev.c ?_
    congr 1
    by_cases h : l.length ≤ 6
    · rw [decide_eq_true h, decide_eq_true (by omega)]
    · rw [decide_eq_false h, decide_eq_false (by omega)]
  have e : (if ((List.range l.length).all fun i => okJ (nth l i z51) && ascAt l i) = true then decide (l.length ≤ 6) else false) = goodJ l := by
    unfold goodJ
    generalize (List.range l.length).all _ = b
    cases b <;> simp
  rw [e] at h
  exact h
theorem iAsc (l : List S51) (hm : l.length ≤ 1048576) : Ev (fun k => impl_LoomJob_51__impl_AreJobs_1.f k l) ((List.range l.length).all fun i => ascAt l i) := by
  unfold impl_LoomJob_51__impl_AreJobs_1.f
  have main : ∀ d (i : Nat), l.length + 1 - i = d → 1 ≤ i → i ≤ l.length + 1 → Ev (fun k => impl_LoomJob_51__impl_AreJobs_1.l0 k l (i : Int)) (decide (∀ j, i ≤ j → j < l.length → (nth l (j - 1) z51).f0 < (nth l j z51).f0)) := by
    intro d
    induction d with
    | zero =>
      intro i hd h1 hi
      refine Ev.succ ?_
      simp only [impl_LoomJob_51__impl_AreJobs_1.l0, if_neg (show ¬ ((i : Int) < (l.length : Int)) by omega)]
      rw [decide_eq_true (fun j h2 h3 => by omega)]
      exact Ev.now _
    | succ d ih =>
      intro i hd h1 hi
      refine Ev.succ ?_
      by_cases hlt : i < l.length
      · simp only [impl_LoomJob_51__impl_AreJobs_1.l0, impl_AreJobs_1.f, if_pos (show (i : Int) < (l.length : Int) by omega), predI i (by omega), if_pos (show (0 : Int) ≤ ((i - 1 : Nat) : Int) by omega), if_pos (show ((i - 1 : Nat) : Int) < (l.length : Int) by omega), rd51, Option.bind_some, if_pos (show (0 : Int) ≤ (i : Int) by omega), stepI i (by omega)]
        by_cases hle : (nth l (i - 1) z51).f0 < (nth l i z51).f0
        · simp only [if_neg (show ¬ ((nth l (i - 1) z51).f0 ≥ (nth l i z51).f0) by omega)]
          have := ih (i + 1) (by omega) (by omega) (by omega)
          rw [show (decide (∀ j, i ≤ j → j < l.length → (nth l (j - 1) z51).f0 < (nth l j z51).f0)) = decide (∀ j, i + 1 ≤ j → j < l.length → (nth l (j - 1) z51).f0 < (nth l j z51).f0) from by
            rw [decide_eq_decide]
            exact ⟨fun h j h2 h3 => h j (by omega) h3, fun h j h2 h3 => by
              by_cases e : j = i
              · subst e; exact hle
              · exact h j (by omega) h3⟩]
          exact this
        · simp only [if_pos (show (nth l (i - 1) z51).f0 ≥ (nth l i z51).f0 by omega)]
          rw [decide_eq_false (fun h => hle (h i (by omega) hlt))]
          exact Ev.now _
      · simp only [impl_LoomJob_51__impl_AreJobs_1.l0, if_neg (show ¬ ((i : Int) < (l.length : Int)) by omega)]
        rw [decide_eq_true (fun j h2 h3 => by omega)]
        exact Ev.now _
  have h := main l.length 1 (by omega) (by omega) (by omega)
  rw [show ((List.range l.length).all fun i => ascAt l i) = decide (∀ j, 1 ≤ j → j < l.length → (nth l (j - 1) z51).f0 < (nth l j z51).f0) from by
    rw [Bool.eq_iff_iff, range_all, decide_eq_true_iff]
    constructor
    · intro h j h1 h2
      have := h j h2
      unfold ascAt at this
      simp only [Bool.or_eq_true, decide_eq_true_iff] at this
      omega
    · intro h j h2
      unfold ascAt
      by_cases h0 : j = 0
      · simp [h0]
      · simp [h j (by omega) h2]]
  exact h
theorem all_split {n : Nat} {p q : Nat → Bool} : ((List.range n).all fun i => p i && q i) = ((List.range n).all p && (List.range n).all q) := by
  rw [Bool.eq_iff_iff, Bool.and_eq_true, range_all, range_all, range_all]
  constructor
  · intro h
    exact ⟨fun i hi => by have := h i hi; rw [Bool.and_eq_true] at this; exact this.1, fun i hi => by have := h i hi; rw [Bool.and_eq_true] at this; exact this.2⟩
  · intro ⟨h1, h2⟩ i hi
    rw [h1 i hi, h2 i hi]; rfl
theorem all_nth {α : Type} {l : List α} {p : α → Bool} (z : α) : l.all p = (List.range l.length).all fun i => p (nth l i z) := by
  rw [Bool.eq_iff_iff, all_iff_nth z, range_all]
theorem iJobs (l : List S51) (hm : l.length ≤ 1048576) : Ev (fun k => impl_AreJobs.f k l) (goodJ l) := by
  unfold impl_AreJobs.f impl_LoomJob_49__impl_LoomJob_isValid.f
  rw [all_total (p := okJ) (fun x _ => iValid x)]
  unfold goodJ
  rw [all_split, ← all_nth (p := okJ) z51]
  by_cases hl : l.length ≤ 6
  · simp only [if_pos (show (l.length : Int) ≤ 6 by omega), Option.bind_some, decide_eq_true hl, Bool.true_and]
    by_cases ha : l.all okJ = true
    · simp only [ha, if_true, Bool.true_and]
      exact Ev.bind (iAsc l hm) (Ev.now _)
    · simp only [ha, Bool.false_eq_true, if_false, Bool.false_and]
      exact Ev.now _
  · simp only [if_neg (show ¬ ((l.length : Int) ≤ 6) by omega), decide_eq_false hl, Bool.false_and]
    exact Ev.now _
end Go.Proofs.Ytcgpibbbkdhpeaa.M

namespace Go.Proofs.Ytcgpibbbkdhpeaa.M
open Go.RowKit Go.Proofs.Ytcgpibbbkdhpeaa.Q Go.Proofs.YtcgpibbbkdhpeaaW.PrintWords Go.Proofs.YtcgpibbbkdhpeaaW.PrintLast Go.Proofs.YtcgpibbbkdhpeaaW.Pl Classical
set_option linter.unusedVariables false
theorem jobsBoth (l : List S51) (hl : l.length ≤ 1048576) : ∃ q : Bool, Ev (fun k => spec_AreJobs.f k l) q ∧ Ev (fun k => impl_AreJobs.f k l) q := by
  refine ⟨goodJ l, ?_, iJobs l hl⟩
  unfold spec_AreJobs.f
  exact Ev.bind (sJobs l hl) (Ev.now _)
end Go.Proofs.Ytcgpibbbkdhpeaa.M

namespace Go.Proofs.Ytcgpibbbkdhpeaa.Pure
open Go.RowKit Go.Proofs.Ytcgpibbbkdhpeaa.Q Go.Proofs.Ytcgpibbbkdhpeaa.M Go.Proofs.YtcgpibbbkdhpeaaW.PrintWords Go.Proofs.YtcgpibbbkdhpeaaW.Pl
set_option linter.unusedSimpArgs false

theorem FnExactAreJobs : laws_FnExactAreJobs.Pure := by
  intro l0  ⟨hZ, _⟩ 
  refine Ev.rounds ?_
  unfold laws_FnExactAreJobs.f
  obtain ⟨r, hr, hs⟩ := szLoomJobs l0 hZ
  rw [hr]
  simp only [Option.bind_some]
  by_cases h : 1048576 < l0.length
  · simp only [if_pos (hs.2 h)]
    exact Ev.now _
  · have hl : (l0.map cvLoomJob).length ≤ 1048576 := by simp; omega
    have hto := toLoomJobs l0 (by omega)
    have hsz : ¬ r < 0 := fun h2 => h (hs.1 h2)
    have heq := eqLoomJobs _ hl
    generalize l0.map cvLoomJob = l at hl hto heq
    obtain ⟨q, hS, hI⟩ := jobsBoth l  hl 
    simp only [if_neg hsz]
    repeat' first
      | exact Ev.now _
      | (with_reducible refine Ev.bind hto ?_)
      | (with_reducible refine Ev.bind hS ?_)
      | (with_reducible refine Ev.bind hI ?_)
      | (with_reducible refine Ev.bind heq ?_)
      | simp only [if_true, bne_self_eq_false, Bool.false_eq_true, if_false]
end Go.Proofs.Ytcgpibbbkdhpeaa.Pure

namespace Go.Proofs.Ytcgpibbbkdhpeaa.fnExactAreJobs
open Go.ChangeShapes Go.WideShapes Go.ChangeAt Go.RowKit Go.Proofs.Ytcgpibbbkdhpeaa.Q Go.Proofs.YtcgpibbbkdhpeaaW.Open Go.Proofs.YtcgpibbbkdhpeaaW.PrintWords
set_option linter.unusedVariables false
theorem own : ownKnob Try.prog.godebug = none := by kernel_rfl
theorem laidOut : laidOutB Try.prog = true := by kernel_rfl
set_option maxRecDepth 100000 in
theorem lifted (os : Os) (started : os.Started) (H : Type) (enc : TypeId × Value → H) :
    ReturnsInHanded {} Try.checked os 3 .any (Rows.fnExactAreJobsSpec.pre6 enc Try.prog Try.f3 Rows.fnExactAreJobsRow.domain false) (Rows.fnExactAreJobsSpec.post enc Try.prog Try.f3 false true false false) := by
  refine returnsInHanded_of_change_sized (C := Try.checked) own started (by kernel_rfl) Try.func3
    (ChangeSpec.witness6 (enc := enc) (C := Try.checked) false ⟨#[], #[.slice none 0 0], []⟩ 8 (by kernel_rfl) (by kernel_rfl) (by kernel_rfl) (by kernel_rfl)) ?_
  intro W base args ds gs before hval0 hW hcnd hsz0 _
  have hval : ∀ (j : Nat) t v, Try.f3.params[j]? = some t → args[j]? = some v → Value.okWide Try.prog W .any base t v := hval0
  have hW' := hW
  obtain ⟨p, q, hA0, hV, rfl, hfz, hnd⟩ := hW
  have hA : DataW.TrodAll enc Try.prog W 0 (fun _ => true) true Try.f3.params.toList args.toList ds p := hA0
  rw [Try.params3] at hA hval
  obtain ⟨v0, vs0, d0, ds0, p0, q0, hargs, rfl, rfl, h0, r0⟩ := trodAll_cons hA
  obtain ⟨rfl, rfl, rfl⟩ := trodAll_nil r0
  obtain rfl : args = #[v0] := by cases args; simp_all
  obtain ⟨rfl, rfl⟩ := trodVars_none hV
  have k0 := h0
  have lt0 : ∀ x ∈ p0, x.block < W.heap.size := by obtain ⟨m, hm⟩ := k0; exact DataW.trod_lt m _ _ _ hm
  obtain ⟨a0, len0, cap0, rfl⟩ := okWide_slice Try.underlying22 (hval 0 22 v0 rfl rfl)
  obtain ⟨fu0, hf0⟩ := h0
  obtain ⟨x0, ⟨A0, c0, hk0, hc0, hr0⟩, q0⟩ := ((Opn.slice Try.underlying22 (n0 := 5) (by kernel_rfl) rfl opn57)).out hf0
  simp [Value.cells] at hk0
  obtain ⟨rfl, rfl, rfl⟩ := hk0
  refine (laws_FnExactAreJobs.walk Pure.FnExactAreJobs x0 _ _ W hr0 hc0 q0).mono fun e W' ⟨he, bel⟩ => ?_
  subst he
  exact ⟨_, rfl, _, _, _, [], _, [], hW', trodAll_mk1 (shut_bool Try.underlying4 _), (trodAll_cons_mk (Below.trod laidOut (by kernel_rfl) (of_decide_eq_true (by kernel_rfl)) k0 bel lt0) trodAll_mk0), rfl, bel.frame _, fun h => by cases h⟩
theorem over : Rows.fnExactAreJobsRow.holds Try.pinned (OpenSpec.ofChange Rows.fnExactAreJobsSpec) :=
  OpenClaim.holds_of_wide 3 Try.f3 rfl rfl rfl rfl rfl rfl rfl ⟨rfl, rfl, rfl, rfl, rfl⟩ rfl rfl rfl rfl rfl (by kernel_rfl) Try.func3 (by kernel_rfl)
    (of_decide_eq_true (by kernel_rfl)) (by unfold Func.isWrapper; first | (rw [if_pos (by decide +kernel)]; kernel_rfl) | (rw [if_neg (by decide +kernel)]; exact ⟨rfl, rfl⟩))
    (fun os started H enc _ => lifted os started H enc)
theorem proved : Rows.FnExactAreJobsSaid := over
end Go.Proofs.Ytcgpibbbkdhpeaa.fnExactAreJobs
namespace Go.Proofs.Ytcgpibbbkdhpeaa
/-- The row, under a short name, for the claim. -/
theorem fnExactAreJobs_holds : Rows.FnExactAreJobsSaid := fnExactAreJobs.proved
end Go.Proofs.Ytcgpibbbkdhpeaa

#print axioms Go.Proofs.Ytcgpibbbkdhpeaa.fnExactAreJobs_holds
