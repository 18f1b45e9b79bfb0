/- The program's FreeLooms returns what the reference's returns, for every shop: no condition. -/
import Derived.Deep.Slices
import Derived.ChangeArms
import Derived.DataReads
import Derived.Carry
import Derived.KernelRfl
import Derived.Test.YtmhiaggpnkihcaaRows
import Derived.WalkKit
import Derived.ProofKit
import Derived.OpenShut
import Derived.ShutString
import Derived.ChangeOld
import Derived.Below
import Derived.SizedLaws
import Derived.ChangeVars
import Derived.Test.YtmhiaggpnkihcaaZFnExactFreeLooms6
namespace Go.Proofs.YtmhiaggpnkihcaaW.Open
open Go.ChangeShapes Go.WideShapes Go.Deep Go.Proofs.YtmhiaggpnkihcaaW.PrintWords

/-- Whatever reads as data of type t lies in memory as a value of kind d that is good. -/
structure Opn {α : Type} (P : Program) (d : Kd α) (t : TypeId) (good : α → Prop) : Prop where
  out : ∀ {H : Type} {enc : TypeId × Value → H} {w : World} {base : Nat} {spare : Nat → Bool} {held : Bool} {fuel : Nat} {cs : List Value} {x : DataW H × List MemPlace},
    DataW.trod enc P w base spare held fuel t cs = some x → ∃ a, d.K w a cs ∧ good a

/-- One for each place: a list of them. -/
theorem list_of {α : Type} {Q : Nat → α → Prop} : ∀ {len : Nat}, (∀ i, i < len → ∃ p : α, Q i p) → ∃ l : List α, l.length = len ∧ ∀ i p, l[i]? = some p → Q i p
  | 0, _ => ⟨[], rfl, by simp⟩
  | n + 1, h => by
    obtain ⟨l, hl1, hl2⟩ := list_of (len := n) (fun i hi => h i (by omega))
    obtain ⟨p, hp⟩ := h n (by omega)
    refine ⟨l ++ [p], by simp [hl1], fun i q hq => ?_⟩
    by_cases hil : i < n
    · rw [List.getElem?_append_left (by omega)] at hq
      exact hl2 i q hq
    · have hin : i = n := by
        have := (List.getElem?_eq_some_iff.1 hq).1
        simp [hl1] at this
        omega
      subst hin
      rw [List.getElem?_append_right (by omega)] at hq
      simp [hl1] at hq
      subst hq
      exact hp

section
variable {P : Program}
theorem Opn.int {t : TypeId} {k : IntKind} (ht : P.underlying t = some (.int k)) : Opn P (Kd.int k) t (fun n => (Lit.int k n).wf = true) := by
  constructor; intro H enc w base spare held fuel cs x h
  cases fuel with
  | zero => simp [DataW.trod] at h
  | succ m =>
    unfold DataW.trod at h
    rw [ht] at h
    split at h <;> simp_all
    exact ⟨_, rfl, by simp_all⟩
theorem Opn.bool {t : TypeId} (ht : P.underlying t = some .bool) : Opn P Kd.bool t (fun _ => True) := by
  constructor; intro H enc w base spare held fuel cs x h
  cases fuel with
  | zero => simp [DataW.trod] at h
  | succ m =>
    unfold DataW.trod at h
    rw [ht] at h
    split at h
    all_goals first | exact ⟨_, rfl, trivial⟩ | simp_all
theorem Opn.slice {α : Type} {d : Kd α} {t e : TypeId} {g : α → Prop} (ht : P.underlying t = some (.slice e)) {n0 : Nat} (hc0 : P.cellsOf e = n0) (hs0 : d.sz = n0) (he : Opn P d e g) :
    Opn P (Kd.slice e d) t (fun l => l.length ≤ maxLen ∧ ∀ x ∈ l, g x) := by
  have hc : P.cellsOf e = d.sz := hc0.trans hs0.symm
  constructor; intro H enc w base spare held fuel cs x h
  rcases open_slice ht h with ⟨rfl, _⟩ | ⟨a, len, cap, m, n, D, Pl, rfl, _, hl, hm, hmm, _, hi⟩
  · exact ⟨[], ⟨none, 0, rfl, Nat.le_refl _, rfl, by simp, fun h => absurd h (by simp)⟩, by simp, by simp⟩
  · have hlm : len ≤ m := by rw [hmm]; split <;> omega
    have hone : ∀ i, i < len → ∃ p : α, g p ∧ ∃ c, c.length = d.sz ∧ d.K w p c ∧ ∀ j u, c[j]? = some u → w.cell? (a.add (i * d.sz + j)) = some u := by
      intro i hil
      obtain ⟨cs', hcs, htr⟩ := hi i (by omega)
      obtain ⟨p, hp, hg⟩ := he.out htr
      obtain ⟨_, hlen, hat⟩ := World.cells?_some hcs
      refine ⟨p, hg, cs', hlen.trans hc, hp, fun j u hj => ?_⟩
      have hjl : j < P.cellsOf e := by have := (List.getElem?_eq_some_iff.1 hj).1; omega
      have := hat j hjl
      rw [hc] at this
      rw [← Go.Deep.add_add, this, hj]
    have hall := list_of hone
    obtain ⟨l, rfl, hl2⟩ := hall
    refine ⟨l, ⟨some a, cap, rfl, hl, rfl, by unfold maxLen at hm; omega, fun _ => ⟨a, rfl, fun j p hj => (hl2 j p hj).2⟩⟩, by omega, fun x hx => ?_⟩
    obtain ⟨i, hi, rfl⟩ := List.getElem_of_mem hx
    exact (hl2 i _ (List.getElem?_eq_getElem hi)).1
theorem Opn.iso {α β : Type} {d : Kd α} {t : TypeId} {g : α → Prop} (f : β → α) (b : α → β) (hfb : ∀ a, f (b a) = a) (h : Opn P d t g) : Opn P (Kd.iso d f) t (fun x => g (f x)) := by
  constructor; intro H enc w base spare held fuel cs x hx
  obtain ⟨a, hk, hg⟩ := h.out hx
  exact ⟨b a, by show d.K w (f (b a)) cs; rw [hfb]; exact hk, by show g (f (b a)); rw [hfb]; exact hg⟩

def andG {α β : Type} (g : α → Prop) (gs : β → Prop) : α × β → Prop := fun x => g x.1 ∧ gs x.2
/-- The fields of a struct, from one on. -/
structure OpnF {α : Type} (P : Program) (d : Kd α) (off : Nat) (fs : List Field) (good : α → Prop) : Prop where
  out : ∀ {H : Type} {enc : TypeId × Value → H} {w : World} {base : Nat} {spare : Nat → Bool} {held : Bool} {fuel : Nat} {cs : List Value},
    cs.length = off + d.sz → (∀ f ∈ fs, ∃ y, DataW.trod enc P w base spare held fuel f.type ((cs.drop f.offset).take (P.cellsOf f.type)) = some y) → ∃ a, d.K w a (cs.drop off) ∧ good a
theorem OpnF.one {α : Type} {d : Kd α} {f : Field} {g : α → Prop} {off : Nat} (ho : f.offset = off) {n0 : Nat} (hc0 : P.cellsOf f.type = n0) (hs0 : d.sz = n0) (h : Opn P d f.type g) : OpnF P d off [f] g := by
  have hc : P.cellsOf f.type = d.sz := hc0.trans hs0.symm
  constructor; intro H enc w base spare held fuel cs hl hf
  obtain ⟨y, hy⟩ := hf f (by simp)
  rw [ho, hc, List.take_of_length_le (by simp; omega)] at hy
  exact h.out hy
theorem OpnF.cons {α β : Type} {d : Kd α} {ds : Kd β} {f : Field} {fs : List Field} {g : α → Prop} {gs : β → Prop} {off : Nat} (ho : f.offset = off) {n0 : Nat} (hc0 : P.cellsOf f.type = n0) (hs0 : d.sz = n0) (h : Opn P d f.type g) (hs : OpnF P ds (off + d.sz) fs gs) :
    OpnF P (Kd.pair d ds) off (f :: fs) (andG g gs) := by
  have hc : P.cellsOf f.type = d.sz := hc0.trans hs0.symm
  constructor; intro H enc w base spare held fuel cs hl hf
  obtain ⟨y, hy⟩ := hf f (by simp)
  rw [ho, hc] at hy
  obtain ⟨a, ha, hga⟩ := h.out hy
  obtain ⟨b, hb, hgb⟩ := hs.out (cs := cs) (by rw [hl]; show off + (d.sz + ds.sz) = _; omega) (fun f' hf' => hf f' (List.mem_cons_of_mem _ hf'))
  refine ⟨(a, b), ⟨_, _, ?_, ha, hb⟩, hga, hgb⟩
  rw [← List.drop_drop, List.take_append_drop]
theorem Opn.struct {α : Type} {d : Kd α} {t : TypeId} {L : List Field} {g : α → Prop} (ht : P.underlying t = some (.struct L.toArray)) {n0 : Nat} (hc0 : P.cellsOf t = n0) (hs0 : d.sz = n0) (h : OpnF P d 0 L g) : Opn P d t g := by
  have hc : P.cellsOf t = d.sz := hc0.trans hs0.symm
  constructor; intro H enc w base spare held fuel cs x hx
  obtain ⟨xs, n, _, _, hlen, hxs, hf⟩ := DataW.trod_struct ht hx
  obtain ⟨a, ha, hg⟩ := h.out (enc := enc) (w := w) (base := base) (spare := spare) (held := held) (fuel := n) (cs := cs) (by rw [hlen, hc]; omega) (fun f hm => by
    obtain ⟨i, hi, rfl⟩ := List.getElem_of_mem hm
    have h1 := hf i L[i] (by simp [hi])
    have hi2 : i < xs.length := by simp at hxs; omega
    exact ⟨xs[i], h1.trans (List.getElem?_eq_getElem hi2)⟩)
  exact ⟨a, by simpa using ha, hg⟩
end
end Go.Proofs.YtmhiaggpnkihcaaW.Open

namespace Go.Proofs.Ytmhiaggpnkihcaa.Q
open Go.RowKit Go.Proofs.YtmhiaggpnkihcaaW.PrintWords Go.Proofs.YtmhiaggpnkihcaaW.PrintLast Go.Proofs.YtmhiaggpnkihcaaW.PrintMore
set_option linter.unusedVariables false
set_option linter.unusedSimpArgs false

open Go.Proofs.YtmhiaggpnkihcaaW.Open
def g57 (x : S57) : Prop := (Lit.int .i64 x.f0).wf = true ∧ (Lit.int .i64 x.f1).wf = true ∧ (Lit.int .i64 x.f2).wf = true ∧ (Lit.int .i64 x.f3).wf = true ∧ (Lit.int .i64 x.f4).wf = true
theorem opn57 : Opn Try.prog k57 57 g57 := by
  show Opn Try.prog (Kd.iso (Kd.pair (Kd.int .i64) (Kd.pair (Kd.int .i64) (Kd.pair (Kd.int .i64) (Kd.pair (Kd.int .i64) (Kd.int .i64))))) (fun x : S57 => (x.f0, x.f1, x.f2, x.f3, x.f4))) 57 (fun x : S57 => (andG (fun x => (Lit.int .i64 x).wf = true) (andG (fun x => (Lit.int .i64 x).wf = true) (andG (fun x => (Lit.int .i64 x).wf = true) (andG (fun x => (Lit.int .i64 x).wf = true) (fun x => (Lit.int .i64 x).wf = true))))) ((fun x : S57 => (x.f0, x.f1, x.f2, x.f3, x.f4)) x))
  refine Opn.iso (g := (andG (fun x => (Lit.int .i64 x).wf = true) (andG (fun x => (Lit.int .i64 x).wf = true) (andG (fun x => (Lit.int .i64 x).wf = true) (andG (fun x => (Lit.int .i64 x).wf = true) (fun x => (Lit.int .i64 x).wf = true)))))) (fun x : S57 => (x.f0, x.f1, x.f2, x.f3, x.f4)) (fun a : Int × Int × Int × Int × Int => (⟨a.1, a.2.1, a.2.2.1, a.2.2.2.1, a.2.2.2.2⟩ : S57)) (fun _ => rfl) ?_
  refine Opn.struct Try.underlying57 (n0 := 5) (by kernel_rfl) rfl ?_
  refine OpnF.cons (n0 := 1) rfl ?_ rfl ?_ ?_
  · kernel_rfl
  · exact (Opn.int Try.underlying3)
  refine OpnF.cons (n0 := 1) rfl ?_ rfl ?_ ?_
  · kernel_rfl
  · exact (Opn.int Try.underlying3)
  refine OpnF.cons (n0 := 1) rfl ?_ rfl ?_ ?_
  · kernel_rfl
  · exact (Opn.int Try.underlying3)
  refine OpnF.cons (n0 := 1) rfl ?_ rfl ?_ ?_
  · kernel_rfl
  · exact (Opn.int Try.underlying3)
  refine OpnF.one (n0 := 1) rfl ?_ rfl ?_
  · kernel_rfl
  · exact (Opn.int Try.underlying3)
def g32 (x : S32) : Prop := (Lit.int .i64 x.f0).wf = true ∧ (Lit.int .i64 x.f1).wf = true ∧ (x.f2.length ≤ maxLen ∧ ∀ y ∈ x.f2, g57 y) ∧ (Lit.int .i64 x.f3).wf = true
theorem opn32 : Opn Try.prog k32 32 g32 := by
  show Opn Try.prog (Kd.iso (Kd.pair (Kd.int .i64) (Kd.pair (Kd.int .i64) (Kd.pair (Kd.slice 57 k57) (Kd.int .i64)))) (fun x : S32 => (x.f0, x.f1, x.f2, x.f3))) 32 (fun x : S32 => (andG (fun x => (Lit.int .i64 x).wf = true) (andG (fun x => (Lit.int .i64 x).wf = true) (andG (fun x => (x.length ≤ maxLen ∧ ∀ y ∈ x, g57 y)) (fun x => (Lit.int .i64 x).wf = true)))) ((fun x : S32 => (x.f0, x.f1, x.f2, x.f3)) x))
  refine Opn.iso (g := (andG (fun x => (Lit.int .i64 x).wf = true) (andG (fun x => (Lit.int .i64 x).wf = true) (andG (fun x => (x.length ≤ maxLen ∧ ∀ y ∈ x, g57 y)) (fun x => (Lit.int .i64 x).wf = true))))) (fun x : S32 => (x.f0, x.f1, x.f2, x.f3)) (fun a : Int × Int × (List (S57)) × Int => (⟨a.1, a.2.1, a.2.2.1, a.2.2.2⟩ : S32)) (fun _ => rfl) ?_
  refine Opn.struct Try.underlying32 (n0 := 4) (by kernel_rfl) rfl ?_
  refine OpnF.cons (n0 := 1) rfl ?_ rfl ?_ ?_
  · kernel_rfl
  · exact (Opn.int Try.underlying3)
  refine OpnF.cons (n0 := 1) rfl ?_ rfl ?_ ?_
  · kernel_rfl
  · exact (Opn.int Try.underlying3)
  refine OpnF.cons (n0 := 1) rfl ?_ rfl ?_ ?_
  · kernel_rfl
  · exact (Opn.slice Try.underlying30 (n0 := 5) (by kernel_rfl) rfl opn57)
  refine OpnF.one (n0 := 1) rfl ?_ rfl ?_
  · kernel_rfl
  · exact (Opn.int Try.underlying3)
end Go.Proofs.Ytmhiaggpnkihcaa.Q

namespace Go.Proofs.Ytmhiaggpnkihcaa.Q
open Go.RowKit Go.Proofs.YtmhiaggpnkihcaaW.PrintWords Go.Proofs.YtmhiaggpnkihcaaW.PrintLast Go.Proofs.YtmhiaggpnkihcaaW.PrintMore
set_option linter.unusedVariables false
set_option linter.unusedSimpArgs false

/-- THE ONE PURE STATEMENT of laws_FnExactFreeLooms. -/
def laws_FnExactFreeLooms.Pure : Prop := ∀ (a0_0 : Int) (a0_1 : Int) (l0_2 : List (S57)) (a0_3 : Int), g32 (⟨a0_0, a0_1, l0_2, a0_3⟩ : S32) → ∃ k, laws_FnExactFreeLooms.f k a0_0 a0_1 l0_2 a0_3 = some true
theorem laws_FnExactFreeLooms.walk (P : laws_FnExactFreeLooms.Pure) (a0_0 : Int) (a0_1 : Int) (l0_2 : List (S57)) (a0_3 : Int) (A0_2 : Option Addr) (c0_2 : Nat) (w : World) (hr0_2 : Kd.C k57 w A0_2 l0_2.length l0_2) (hc0_2 : l0_2.length ≤ c0_2) (q0 : g32 (⟨a0_0, a0_1, l0_2, a0_3⟩ : S32)) :
    Calls Try.prog 8 #[.agg #[.int .i64 a0_0, .int .i64 a0_1, .slice A0_2 l0_2.length c0_2, .int .i64 a0_3]] w fun e w' => e = .returned (.bool true) ∧ Below w.heap.size w w' := by
  obtain ⟨k, h⟩ := P a0_0 a0_1 l0_2 a0_3 q0
  refine (laws_FnExactFreeLooms.calls (k := k) (r := true) (w := w) (hr0_2 := hr0_2) (hc0_2 := hc0_2) (h := h)).mono ?_
  rintro e w' ⟨rfl, hd⟩
  exact ⟨rfl, hd⟩
end Go.Proofs.Ytmhiaggpnkihcaa.Q

namespace Go.Proofs.Ytmhiaggpnkihcaa.Q
open Go.RowKit Go.Proofs.YtmhiaggpnkihcaaW.PrintWords Go.Proofs.YtmhiaggpnkihcaaW.PrintLast Go.Proofs.YtmhiaggpnkihcaaW.PrintMore
set_option linter.unusedVariables false
set_option linter.unusedSimpArgs false

/-- THE ONE PURE STATEMENT of laws_FnExactIsShop. -/
def laws_FnExactIsShop.Pure : Prop := ∀ (a0_0 : Int) (a0_1 : Int) (l0_2 : List (S57)) (a0_3 : Int), g32 (⟨a0_0, a0_1, l0_2, a0_3⟩ : S32) → ∃ k, laws_FnExactIsShop.f k a0_0 a0_1 l0_2 a0_3 = some true
theorem laws_FnExactIsShop.walk (P : laws_FnExactIsShop.Pure) (a0_0 : Int) (a0_1 : Int) (l0_2 : List (S57)) (a0_3 : Int) (A0_2 : Option Addr) (c0_2 : Nat) (w : World) (hr0_2 : Kd.C k57 w A0_2 l0_2.length l0_2) (hc0_2 : l0_2.length ≤ c0_2) (q0 : g32 (⟨a0_0, a0_1, l0_2, a0_3⟩ : S32)) :
    Calls Try.prog 4 #[.agg #[.int .i64 a0_0, .int .i64 a0_1, .slice A0_2 l0_2.length c0_2, .int .i64 a0_3]] w fun e w' => e = .returned (.bool true) ∧ Below w.heap.size w w' := by
  obtain ⟨k, h⟩ := P a0_0 a0_1 l0_2 a0_3 q0
  refine (laws_FnExactIsShop.calls (k := k) (r := true) (w := w) (hr0_2 := hr0_2) (hc0_2 := hc0_2) (h := h)).mono ?_
  rintro e w' ⟨rfl, hd⟩
  exact ⟨rfl, hd⟩
end Go.Proofs.Ytmhiaggpnkihcaa.Q

namespace Go.Proofs.YtmhiaggpnkihcaaW.Pl
open Go.RowKit Go.Proofs.YtmhiaggpnkihcaaW.PrintWords Classical

theorem w64 {x : Int} (h : -9223372036854775808 ≤ x ∧ x ≤ 9223372036854775807) : wrap64 x = x := by unfold wrap64; omega
/-- A loop that fills a list place by place. -/
theorem fill_gen {α β : Type} (l : List α) (conv : α → β) (loop : Nat → List β → Int → Option (List β))
    (hstep : ∀ k (acc : List β) (i : Nat) (hi : i < l.length), acc.length = l.length → loop (k + 1) acc (i : Int) = loop k (acc.set i (conv l[i])) ((i + 1 : Nat) : Int))
    (hend : ∀ k (acc : List β), loop (k + 1) acc (l.length : Int) = some acc) (k : Nat) (hk : l.length < k) (acc : List β) (hacc : acc.length = l.length) : loop k acc 0 = some (l.map conv) := by
  have main : ∀ d (i : Nat) (k : Nat) (acc : List β), l.length - i = d → i ≤ l.length → d < k → acc.length = l.length → (∀ j (hj : j < i) (h2 : j < acc.length) (h3 : j < l.length), acc[j] = conv l[j]) → loop k acc (i : Int) = some (l.map conv) := by
    intro d
    induction d with
    | zero =>
      intro i k acc hd hi hk ha hj
      obtain ⟨k, rfl⟩ : ∃ m, k = m + 1 := ⟨k - 1, by omega⟩
      have : i = l.length := by omega
      subst this
      rw [hend]
      congr 1
      apply List.ext_getElem (by simp [ha])
      intro j h1 h2
      simp only [List.getElem_map]
      exact hj j (by omega) h1 (by omega)
    | succ d ih =>
      intro i k acc hd hi hk ha hj
      obtain ⟨k, rfl⟩ : ∃ m, k = m + 1 := ⟨k - 1, by omega⟩
      rw [hstep k acc i (by omega) ha]
      refine ih (i + 1) k _ (by omega) (by omega) (by omega) (by simp [ha]) ?_
      intro j h1 h2 h3
      by_cases e : j = i
      · subst e; simp
      · rw [List.getElem_set_ne (by omega)]
        exact hj j (by omega) (by simpa using h2) h3
  exact main l.length 0 k acc (by omega) (by omega) hk hacc (fun j hj => by omega)

/-- A place of a list (a word that simp leaves alone). -/
def nth {α : Type} (l : List α) (i : Nat) (z : α) : α := l.getD i z
theorem nth_get {α : Type} {l : List α} {i : Nat} {z : α} (h : i < l.length) : nth l i z = l[i] := by
  unfold nth; rw [List.getD_eq_getElem?_getD, List.getElem?_eq_getElem h]; rfl
theorem nth_mem {α : Type} {l : List α} {i : Nat} {z : α} (h : i < l.length) : nth l i z ∈ l := by rw [nth_get h]; exact List.getElem_mem h
theorem range_all {n : Nat} {p : Nat → Bool} : (List.range n).all p = true ↔ ∀ i, i < n → p i = true := by
  rw [List.all_eq_true]; simp
/-- What the size's check lets in. -/
theorem sz_small {n : Nat} (hm : n ≤ maxLen) : (wrap64 (1048576 - (n : Int)) < 0) ↔ 1048576 < n := by
  unfold maxLen at hm
  rw [w64 (by omega)]; omega
/-! ### with 'from some number of rounds on' -/
theorem Ev.succ {α : Type} {g : Nat → Option α} {r : α} (h : Ev (fun k => g (k + 1)) r) : Ev g r := Ev.step (fun _ => rfl) h
theorem Ev.c {α : Type} {x : Option α} {r : α} (h : x = some r) : Ev (fun _ => x) r := ⟨0, fun _ _ => h⟩
theorem scanE {γ : Type} (n : Nat) (ok : Nat → Bool) (e bad : γ) (loop : Nat → Int → Option γ)
    (hs : ∀ (i : Nat) (r : γ), i < n → ok i = true → Ev (fun k => loop k ((i + 1 : Nat) : Int)) r → Ev (fun k => loop k (i : Int)) r)
    (hb : ∀ (i : Nat), i < n → ok i = false → Ev (fun k => loop k (i : Int)) bad)
    (he : Ev (fun k => loop k (n : Int)) e) : Ev (fun k => loop k 0) (if (List.range n).all ok = true then e else bad) := by
  have main : ∀ d (i : Nat), n - i = d → i ≤ n → Ev (fun k => loop k (i : Int)) (if (∀ j, i ≤ j → j < n → ok j = true) then e else bad) := by
    intro d
    induction d with
    | zero =>
      intro i hd hi
      have : i = n := by omega
      subst this
      rw [if_pos (fun j h1 h2 => by omega)]; exact he
    | succ d ih =>
      intro i hd hi
      cases ho : ok i with
      | true =>
        refine hs i _ (by omega) ho ?_
        have := ih (i + 1) (by omega) (by omega)
        by_cases hall : ∀ j, i ≤ j → j < n → ok j = true
        · rw [if_pos hall]; rwa [if_pos (fun j h1 h2 => hall j (by omega) h2)] at this
        · rw [if_neg hall]; rwa [if_neg (fun h => hall (fun j h1 h2 => by
            by_cases e : j = i
            · subst e; exact ho
            · exact h j (by omega) h2))] at this
      | false =>
        rw [if_neg (fun h => by have := h i (by omega) (by omega); rw [ho] at this; cases this)]
        exact hb i (by omega) ho
  have := main n 0 (by omega) (by omega)
  by_cases hall : ∀ j, 0 ≤ j → j < n → ok j = true
  · rw [if_pos hall] at this
    rw [if_pos (List.all_eq_true.2 (fun j hj => hall j (by omega) (by simpa using hj)))]
    exact this
  · rw [if_neg hall] at this
    rw [if_neg (fun h => hall (fun j _ h2 => List.all_eq_true.1 h j (by simpa using h2)))]
    exact this
/-- One step of a store, beside what follows. -/
theorem bindLen {α γ : Type} {n : Nat} (a : List α) (F : List α → Nat → Option γ) (G : List α → Nat → Option γ) (h : a.length = n) (hF : ∀ a' : List α, a'.length = n → ∃ b : List α, b.length = n ∧ ∀ k, F a' k = G b k) : ∃ b : List α, b.length = n ∧ ∀ k, ((some a).bind fun y => F y k) = G b k := hF a h
theorem stepI (n : Nat) (h : n < 4611686018427387904) : wrap64 ((n : Int) + 1) = ((n + 1 : Nat) : Int) := by
  rw [w64 (by omega)]
  rfl
end Go.Proofs.YtmhiaggpnkihcaaW.Pl

namespace Go.Proofs.Ytmhiaggpnkihcaa.M
open Go.RowKit Go.Proofs.Ytmhiaggpnkihcaa.Q Go.Proofs.YtmhiaggpnkihcaaW.PrintWords Go.Proofs.YtmhiaggpnkihcaaW.PrintLast Go.Proofs.YtmhiaggpnkihcaaW.Pl Classical
set_option linter.unusedSimpArgs false
set_option linter.unusedVariables false

theorem l1In (a b c : Int) : spec_l1In.f a b c = some (decide (b ≤ a ∧ a ≤ c)) := by
  unfold spec_l1In.f
  by_cases h : b ≤ a <;> by_cases h2 : a ≤ c <;> simp [h, h2]
theorem iIn (a b c : Int) : impl_in.f a b c = some (decide (b ≤ a ∧ a ≤ c)) := by
  unfold impl_in.f
  by_cases h : b ≤ a <;> by_cases h2 : a ≤ c <;> simp [h, h2]
theorem rd50 (l : List S50) (i : Nat) : rd_T50 l (i : Int) = nth l i z50 := by unfold rd_T50 nth; simp
theorem rd57 (l : List S57) (i : Nat) : rd_T57 l (i : Int) = nth l i z57 := by unfold rd_T57 nth; simp
/-- A valid carpet. -/
def okC (day looms a b c d e : Int) : Bool := decide ((1 ≤ a ∧ a ≤ 500) ∧ (0 ≤ b ∧ b ≤ a) ∧ (0 ≤ c ∧ c ≤ 4) ∧ (0 ≤ e ∧ e ≤ day) ∧ ((c = 1 ∧ 1 ≤ d ∧ d ≤ looms) ∨ (c = 0 ∧ d = 0 ∧ b = 0) ∨ (c ≠ 0 ∧ c ≠ 1 ∧ d = 0 ∧ b = a)))
theorem sCarpet (k : Nat) (day looms m : Int) (l : List S50) (a b c d e : Int) : spec_l25Carpet.f (k + 1) day looms l m a b c d e = some (okC day looms a b c d e) := by
  unfold spec_l25Carpet.f okC
  simp only [l1In, Option.bind_some]
  by_cases h1 : (1 ≤ a ∧ a ≤ 500) ∧ (0 ≤ b ∧ b ≤ a) ∧ (0 ≤ c ∧ c ≤ 4) ∧ (0 ≤ e ∧ e ≤ day)
  · obtain ⟨h1, h2, h3, h4⟩ := h1
    simp only [h1, h2, h3, h4, and_self, true_and, decide_true, if_true, Bool.not_true, spec_l25Carpet.j0, Bool.false_eq_true, if_false, l1In, Option.bind_some]
    by_cases c1 : c = 1
    · simp [c1]
    · by_cases c0 : c = 0
      · by_cases d0 : d = 0 <;> by_cases b0 : b = 0 <;> simp [c0, d0, b0]
      · by_cases d0 : d = 0 <;> by_cases b0 : b = a <;> simp [c0, c1, d0, b0]
  · by_cases g1 : 1 ≤ a ∧ a ≤ 500 <;> by_cases g2 : 0 ≤ b ∧ b ≤ a <;> by_cases g3 : 0 ≤ c ∧ c ≤ 4 <;> by_cases g4 : 0 ≤ e ∧ e ≤ day
    · exact absurd ⟨g1, g2, g3, g4⟩ h1
    all_goals simp only [g1, g2, g3, g4, and_self, true_and, false_and, and_false, decide_true, decide_false, if_true, if_false, Bool.false_eq_true, Bool.not_false, Bool.not_true, spec_l25Carpet.j0]
theorem iCarpet (k : Nat) (day looms m : Int) (l : List S50) (a b c d e : Int) : impl_Shop_isCarpet.f (k + 1) day looms l m a b c d e = some (okC day looms a b c d e) := by
  unfold impl_Shop_isCarpet.f okC
  simp only [iIn, Option.bind_some]
  by_cases h1 : (1 ≤ a ∧ a ≤ 500) ∧ (0 ≤ b ∧ b ≤ a) ∧ (0 ≤ c ∧ c ≤ 4) ∧ (0 ≤ e ∧ e ≤ day)
  · obtain ⟨h1, h2, h3, h4⟩ := h1
    simp only [h1, h2, h3, h4, and_self, true_and, decide_true, if_true, Bool.not_true, impl_Shop_isCarpet.j0, Bool.false_eq_true, if_false, iIn, Option.bind_some]
    by_cases c1 : c = 1
    · simp [c1]
    · by_cases c0 : c = 0
      · by_cases d0 : d = 0 <;> by_cases b0 : b = 0 <;> simp [c0, d0, b0]
      · by_cases d0 : d = 0 <;> by_cases b0 : b = a <;> simp [c0, c1, d0, b0]
  · by_cases g1 : 1 ≤ a ∧ a ≤ 500 <;> by_cases g2 : 0 ≤ b ∧ b ≤ a <;> by_cases g3 : 0 ≤ c ∧ c ≤ 4 <;> by_cases g4 : 0 ≤ e ∧ e ≤ day
    · exact absurd ⟨g1, g2, g3, g4⟩ h1
    all_goals simp only [g1, g2, g3, g4, and_self, true_and, false_and, and_false, decide_true, decide_false, if_true, if_false, Bool.false_eq_true, Bool.not_false, Bool.not_true, impl_Shop_isCarpet.j0]
theorem sCarpetE (day looms m : Int) (l : List S50) (a b c d e : Int) : Ev (fun k => spec_l25Carpet.f k day looms l m a b c d e) (okC day looms a b c d e) := Ev.succ ⟨0, fun k _ => sCarpet k day looms m l a b c d e⟩
theorem iCarpetE (day looms m : Int) (l : List S50) (a b c d e : Int) : Ev (fun k => impl_Shop_isCarpet.f k day looms l m a b c d e) (okC day looms a b c d e) := Ev.succ ⟨0, fun k _ => iCarpet k day looms m l a b c d e⟩
def cvC (x : S57) : S50 := ⟨x.f0, x.f1, x.f2, x.f3, x.f4⟩
theorem toCarpets (l : List S57) (hm : l.length ≤ 1048576) : Ev (fun k => laws_toCarpetS.f k l) (l.map cvC) := by
  refine ⟨l.length + 1, fun k hk => ?_⟩
  show laws_toCarpetS.f k l = _
  unfold laws_toCarpetS.f
  rw [if_pos (by omega), if_pos (by omega)]
  have h := fill_gen l cvC (fun k acc i => laws_toCarpetS.l0 k l acc i) ?hstep ?hend k hk (List.replicate l.length z50) (by simp)
  case hstep =>
    intro k acc i hi ha
    simp only [laws_toCarpetS.l0]
    rw [if_pos (by omega), if_pos (by omega), rd57, nth_get hi]
    simp only [laws_toCarpet.f, Option.bind_some]
    rw [if_pos (by omega), w64 (x := (i : Int) + 1) (by omega)]
    rfl
  case hend =>
    intro k acc
    simp [laws_toCarpetS.l0]
  simpa using h
theorem eqCarpets (l : List S50) (hm : l.length ≤ 1048576) : Ev (fun k => laws_eqCarpetS.f k l l) true := by
  unfold laws_eqCarpetS.f
  simp only [if_true]
  have h := scanE l.length (fun _ => true) true false (fun k i => laws_eqCarpetS.l0 k l l i) ?hs ?hb ?he
  case hs =>
    intro i r hi _ hr
    refine Ev.succ ?_
    simp only [laws_eqCarpetS.l0, laws_eqCarpet.f, if_pos (show (i : Int) < (l.length : Int) by omega), if_pos (show (0 : Int) ≤ (i : Int) by omega), if_true, Option.bind_some, w64 (x := (i : Int) + 1) (by omega)]
    exact hr
  case hb => intro i _ h; cases h
  case he =>
    refine Ev.succ ?_
    simp only [laws_eqCarpetS.l0, if_neg (show ¬ ((l.length : Int) < (l.length : Int)) by omega)]
    exact Ev.now _
  simpa using h
theorem szShop (a b d : Int) (l : List S57) (hm : l.length ≤ maxLen) : ∃ r, laws_szShop.f a b l d 1048576 = some r ∧ (r < 0 ↔ 1048576 < l.length) := by
  unfold laws_szShop.f laws_szCarpetS.f
  have := sz_small hm
  by_cases h : wrap64 (1048576 - (l.length : Int)) < 0
  · exact ⟨-1, by rw [if_pos h]; rfl, by rw [← this]; exact ⟨fun _ => h, fun _ => by omega⟩⟩
  · exact ⟨_, by rw [if_neg h, Option.bind_some, if_neg h], this⟩
/-- A loop that finds a bad place. -/
theorem scanBad {γ : Type} (n : Nat) (ok : Nat → Bool) (bad : γ) (loop : Nat → Int → Option γ)
    (hs : ∀ (i : Nat) (r : γ), i < n → ok i = true → Ev (fun k => loop k ((i + 1 : Nat) : Int)) r → Ev (fun k => loop k (i : Int)) r)
    (hb : ∀ (i : Nat), i < n → ok i = false → Ev (fun k => loop k (i : Int)) bad) (h : (List.range n).all ok = false) : Ev (fun k => loop k 0) bad := by
  have main : ∀ d (i : Nat), n - i = d → (∃ j, i ≤ j ∧ j < n ∧ ok j = false) → Ev (fun k => loop k (i : Int)) bad := by
    intro d
    induction d with
    | zero => intro i hd ⟨j, h1, h2, _⟩; omega
    | succ d ih =>
      intro i hd ⟨j, h1, h2, h3⟩
      cases hq : ok i with
      | false => exact hb i (by omega) hq
      | true =>
        refine hs i bad (by omega) hq (ih (i + 1) (by omega) ⟨j, ?_, h2, h3⟩)
        by_cases e : j = i
        · subst e; rw [hq] at h3; cases h3
        · omega
  refine main n 0 (by omega) ?_
  apply Classical.byContradiction
  intro hn
  rw [Bool.eq_false_iff] at h
  apply h
  rw [range_all]
  intro i hi
  cases hq : ok i with
  | true => rfl
  | false => exact absurd ⟨i, by omega, hi, hq⟩ hn
/-- What a place of the list needs: a valid carpet, and a loom of its own. -/
def freeAt (l : List S50) (i : Nat) : Bool := (List.range i).all fun j => !(decide ((nth l i z50).f3 > 0) && decide ((nth l j z50).f3 = (nth l i z50).f3))
def okAt (day looms : Int) (l : List S50) (i : Nat) : Bool := okC day looms (nth l i z50).f0 (nth l i z50).f1 (nth l i z50).f2 (nth l i z50).f3 (nth l i z50).f4 && freeAt l i
def goodS (day looms : Int) (l : List S50) (m : Int) : Bool := decide ((0 ≤ day ∧ day ≤ 4000) ∧ (1 ≤ looms ∧ looms ≤ 4) ∧ (0 ≤ m ∧ m ≤ 1000000) ∧ l.length ≤ 8) && (List.range l.length).all fun i => okAt day looms l i
theorem sInStep (day looms m : Int) (l : List S50) (hl : l.length ≤ 8) (i : Nat) (hi : i < l.length) (j : Nat) (r : Bool) (hj : j < i)
    (hok : (!(decide ((nth l i z50).f3 > 0) && decide ((nth l j z50).f3 = (nth l i z50).f3))) = true)
    (h : Ev (fun k => spec_l25Good.l1 k (i : Int) ((j + 1 : Nat) : Int) day looms l m) r) : Ev (fun k => spec_l25Good.l1 k (i : Int) (j : Int) day looms l m) r := by
  refine Ev.succ ?_
  simp only [spec_l25Good.l1, if_pos (show (j : Int) < (i : Int) by omega), if_pos (show (0 : Int) ≤ (i : Int) by omega), if_pos (show (i : Int) < (l.length : Int) by omega), if_pos (show (0 : Int) ≤ (j : Int) by omega), if_pos (show (j : Int) < (l.length : Int) by omega), rd50, (show wrap64 ((j : Int) + 1) = ((j + 1 : Nat) : Int) by rw [w64 (by omega)]; omega)]
  by_cases h1 : (nth l i z50).f3 > 0
  · by_cases h2 : (nth l j z50).f3 = (nth l i z50).f3
    · simp [h1, h2] at hok
    · simp only [if_pos h1, if_neg h2]; exact h
  · simp only [if_neg h1]; exact h
theorem sInBad (day looms m : Int) (l : List S50) (hl : l.length ≤ 8) (i : Nat) (hi : i < l.length) (j : Nat) (hj : j < i)
    (hok : (!(decide ((nth l i z50).f3 > 0) && decide ((nth l j z50).f3 = (nth l i z50).f3))) = false) : Ev (fun k => spec_l25Good.l1 k (i : Int) (j : Int) day looms l m) false := by
  refine Ev.succ ?_
  rw [Bool.not_eq_false', Bool.and_eq_true, decide_eq_true_eq, decide_eq_true_eq] at hok
  simp only [spec_l25Good.l1, if_pos (show (j : Int) < (i : Int) by omega), if_pos (show (0 : Int) ≤ (i : Int) by omega), if_pos (show (i : Int) < (l.length : Int) by omega), if_pos (show (0 : Int) ≤ (j : Int) by omega), if_pos (show (j : Int) < (l.length : Int) by omega), rd50, if_pos hok.1, if_pos hok.2]
  exact Ev.now _
theorem sLoop (day looms m : Int) (l : List S50) (hl : l.length ≤ 8) : Ev (fun k => spec_l25Good.l0 k 0 day looms l m) ((List.range l.length).all fun i => okAt day looms l i) := by
  have h := scanE l.length (fun i => okAt day looms l i) true false (fun k i => spec_l25Good.l0 k i day looms l m) ?hs ?hb ?he
  case hs =>
    intro i r hi hok hr
    unfold okAt at hok
    rw [Bool.and_eq_true] at hok
    refine Ev.succ ?_
    simp only [spec_l25Good.l0, if_pos (show (i : Int) < (l.length : Int) by omega), if_pos (show (0 : Int) ≤ (i : Int) by omega), rd50]
    refine Ev.bind (sCarpetE day looms m l _ _ _ _ _) ?_
    simp only [hok.1, if_true]
    have h2 := scanE i (fun j => !(decide ((nth l i z50).f3 > 0) && decide ((nth l j z50).f3 = (nth l i z50).f3))) r false (fun k j => spec_l25Good.l1 k (i : Int) j day looms l m) ?hs2 ?hb2 ?he2
    case hs2 => exact fun j r hj hok h => sInStep day looms m l hl i hi j r hj hok h
    case hb2 => exact fun j hj hok => sInBad day looms m l hl i hi j hj hok
    case he2 =>
      refine Ev.succ ?_
      simp only [spec_l25Good.l1, if_neg (show ¬ ((i : Int) < (i : Int)) by omega), (show wrap64 ((i : Int) + 1) = ((i + 1 : Nat) : Int) by rw [w64 (by omega)]; omega)]
      exact hr
    have h3 := hok.2
    unfold freeAt at h3
    rw [h3] at h2
    exact h2
  case hb =>
    intro i hi hok
    refine Ev.succ ?_
    simp only [spec_l25Good.l0, if_pos (show (i : Int) < (l.length : Int) by omega), if_pos (show (0 : Int) ≤ (i : Int) by omega), rd50]
    refine Ev.bind (sCarpetE day looms m l _ _ _ _ _) ?_
    unfold okAt at hok
    cases hc : okC day looms (nth l i z50).f0 (nth l i z50).f1 (nth l i z50).f2 (nth l i z50).f3 (nth l i z50).f4 with
    | false => simp only [Bool.false_eq_true, if_false]; exact Ev.now _
    | true =>
      rw [hc, Bool.true_and] at hok
      simp only [if_true]
      unfold freeAt at hok
      exact scanBad i _ false (fun k j => spec_l25Good.l1 k (i : Int) j day looms l m) (fun j r hj hok h => sInStep day looms m l hl i hi j r hj hok h) (fun j hj hok => sInBad day looms m l hl i hi j hj hok) hok
  case he =>
    refine Ev.succ ?_
    simp only [spec_l25Good.l0, if_neg (show ¬ ((l.length : Int) < (l.length : Int)) by omega)]
    exact Ev.now _
  rw [show ((List.range l.length).all fun i => okAt day looms l i) = if ((List.range l.length).all fun i => okAt day looms l i) = true then true else false by cases ((List.range l.length).all fun i => okAt day looms l i) <;> rfl]
  simpa using h
/-- As scanE, where all places before are known to be good. -/
theorem scanP {γ : Type} (n : Nat) (ok : Nat → Bool) (e bad : γ) (loop : Nat → Int → Option γ)
    (hs : ∀ (i : Nat) (r : γ), i < n → (∀ j, j < i → ok j = true) → ok i = true → Ev (fun k => loop k ((i + 1 : Nat) : Int)) r → Ev (fun k => loop k (i : Int)) r)
    (hb : ∀ (i : Nat), i < n → (∀ j, j < i → ok j = true) → ok i = false → Ev (fun k => loop k (i : Int)) bad)
    (he : Ev (fun k => loop k (n : Int)) e) : Ev (fun k => loop k 0) (if (List.range n).all ok = true then e else bad) := by
  have main : ∀ d (i : Nat), n - i = d → i ≤ n → (∀ j, j < i → ok j = true) → Ev (fun k => loop k (i : Int)) (if (List.range n).all ok = true then e else bad) := by
    intro d
    induction d with
    | zero =>
      intro i hd hi hp
      have hin : i = n := by omega
      subst hin
      rw [if_pos (range_all.2 hp)]
      exact he
    | succ d ih =>
      intro i hd hi hp
      cases hq : ok i with
      | false =>
        rw [if_neg (fun h => by have := range_all.1 h i (by omega); rw [hq] at this; cases this)]
        exact hb i (by omega) hp hq
      | true =>
        refine hs i _ (by omega) hp hq (ih (i + 1) (by omega) (by omega) (fun j hj => ?_))
        by_cases e : j = i
        · subst e; exact hq
        · exact hp j (by omega)
  exact main n 0 (by omega) (by omega) (fun j hj => by omega)
theorem idx_before {α : Type} {p : α → Bool} {l : List α} {i : Nat} (h : idx p l = (i : Int)) : ∀ j (hj : j < l.length), j < i → p (l[j]) = false := by
  intro j hj hji
  unfold idx at h
  cases hf : l.findIdx? p with
  | none => rw [hf] at h; simp only at h; omega
  | some m =>
    rw [hf] at h
    have hm : m = i := by simp only at h; omega
    subst hm
    rw [List.findIdx?_eq_some_iff_getElem] at hf
    obtain ⟨_, _, h3⟩ := hf
    have := h3 j hji
    simpa using this
theorem okC_loom {day looms a b c d e : Int} (h : okC day looms a b c d e = true) : (c = 1 → 1 ≤ d) ∧ (d > 0 → c = 1) := by
  unfold okC at h
  have := of_decide_eq_true h
  omega
theorem onLoom_first (day looms m : Int) (l : List S50) (i : Nat) (hi : i < l.length) (hp : ∀ j, j < i → okAt day looms l j = true) (hc : okC day looms (nth l i z50).f0 (nth l i z50).f1 (nth l i z50).f2 (nth l i z50).f3 (nth l i z50).f4 = true) (h1 : (nth l i z50).f2 = 1) :
    (idx (fun x : S50 => decide (x.f2 = 1) && decide (x.f3 = (nth l i z50).f3)) l = (i : Int)) ↔ freeAt l i = true := by
  have hpos := (okC_loom hc).1 h1
  unfold freeAt
  rw [range_all]
  constructor
  · intro h j hj
    have h2 := idx_before h j (by omega) hj
    have h3 := hp j hj
    unfold okAt at h3
    rw [Bool.and_eq_true] at h3
    have h4 := (okC_loom h3.1).2
    rw [nth_get (show j < l.length by omega)] at h4 ⊢
    by_cases a1 : (l[j]).f3 = (nth l i z50).f3
    · rw [decide_eq_true (h4 (by omega)), decide_eq_true a1] at h2; cases h2
    · rw [decide_eq_false a1, Bool.and_false]; rfl
  · intro h
    refine idx_hit hi ?_ (fun j hj => ?_)
    · rw [nth_get hi] at h1 ⊢
      rw [decide_eq_true h1, decide_eq_true rfl]; rfl
    · have h2 := h j hj
      rw [nth_get (show j < l.length by omega)] at h2
      rw [decide_eq_true (show (nth l i z50).f3 > 0 by omega), Bool.true_and] at h2
      cases a1 : decide ((l[j]'(by omega)).f3 = (nth l i z50).f3) with
      | true => rw [a1] at h2; cases h2
      | false => rw [Bool.and_false]
theorem free_other (day looms : Int) (l : List S50) (i : Nat) (hc : okC day looms (nth l i z50).f0 (nth l i z50).f1 (nth l i z50).f2 (nth l i z50).f3 (nth l i z50).f4 = true) (h1 : ¬ (nth l i z50).f2 = 1) : freeAt l i = true := by
  unfold freeAt
  rw [range_all]
  intro j hj
  have h3 : ¬ ((nth l i z50).f3 > 0) := fun h => h1 ((okC_loom hc).2 h)
  rw [decide_eq_false h3, Bool.false_and]; rfl
theorem iLoop (day looms m : Int) (l : List S50) (hl : l.length ≤ 8) : Ev (fun k => impl_IsShop.l0 k l (l.length : Int) 0 day looms l m) ((List.range l.length).all fun i => okAt day looms l i) := by
  have h := scanP l.length (fun i => okAt day looms l i) true false (fun k i => impl_IsShop.l0 k l (l.length : Int) i day looms l m) ?hs ?hb ?he
  case hs =>
    intro i r hi hp hok hr
    unfold okAt at hok
    rw [Bool.and_eq_true] at hok
    refine Ev.succ ?_
    simp only [impl_IsShop.l0, if_pos (show (i : Int) < (l.length : Int) by omega), if_pos (show (0 : Int) ≤ (i : Int) by omega), rd50]
    refine Ev.bind (iCarpetE day looms m l _ _ _ _ _) ?_
    simp only [hok.1, if_true, impl_Shop_onLoom.f, Option.bind_some, (show wrap64 ((i : Int) + 1) = ((i + 1 : Nat) : Int) by rw [w64 (by omega)]; omega)]
    by_cases h1 : (nth l i z50).f2 = 1
    · simp only [if_pos h1, if_pos ((onLoom_first day looms m l i hi hp hok.1 h1).2 hok.2)]
      exact hr
    · simp only [if_neg h1]
      exact hr
  case hb =>
    intro i hi hp hok
    refine Ev.succ ?_
    simp only [impl_IsShop.l0, if_pos (show (i : Int) < (l.length : Int) by omega), if_pos (show (0 : Int) ≤ (i : Int) by omega), rd50]
    refine Ev.bind (iCarpetE day looms m l _ _ _ _ _) ?_
    unfold okAt at hok
    cases hc : okC day looms (nth l i z50).f0 (nth l i z50).f1 (nth l i z50).f2 (nth l i z50).f3 (nth l i z50).f4 with
    | false => simp only [Bool.false_eq_true, if_false]; exact Ev.now _
    | true =>
      rw [hc, Bool.true_and] at hok
      simp only [if_true, impl_Shop_onLoom.f, Option.bind_some]
      by_cases h1 : (nth l i z50).f2 = 1
      · have hn : ¬ (idx (fun x : S50 => decide (x.f2 = 1) && decide (x.f3 = (nth l i z50).f3)) l = (i : Int)) := fun h => by
          rw [(onLoom_first day looms m l i hi hp hc h1).1 h] at hok; cases hok
        simp only [if_pos h1, if_neg hn]
        exact Ev.now _
      · rw [free_other day looms l i hc h1] at hok; cases hok
  case he =>
    refine Ev.succ ?_
    simp only [impl_IsShop.l0, if_neg (show ¬ ((l.length : Int) < (l.length : Int)) by omega)]
    exact Ev.now _
  rw [show ((List.range l.length).all fun i => okAt day looms l i) = if ((List.range l.length).all fun i => okAt day looms l i) = true then true else false by cases ((List.range l.length).all fun i => okAt day looms l i) <;> rfl]
  simpa using h
theorem sGood (day looms m : Int) (l : List S50) : Ev (fun k => spec_l25Good.f k day looms l m) (goodS day looms l m) := by
  unfold spec_l25Good.f spec_l2Day.f goodS
  simp only [l1In, Option.bind_some]
  by_cases h1 : 0 ≤ day ∧ day ≤ 4000 <;> by_cases h2 : 1 ≤ looms ∧ looms ≤ 4 <;> by_cases h3 : 0 ≤ m ∧ m ≤ 1000000 <;> by_cases h4 : l.length ≤ 8
  · simp only [h1, h2, h3, h4, and_self, decide_true, if_true, Bool.true_and, decide_eq_false (show ¬ ((l.length : Int) > 8) by omega)]
    refine Ev.succ ?_
    simp only [spec_l25Good.j0, Bool.false_eq_true, if_false]
    exact sLoop day looms m l h4
  · simp only [h1, h2, h3, h4, and_self, and_false, decide_true, decide_false, if_true, Bool.false_and, decide_eq_true (show ((l.length : Int) > 8) by omega)]
    refine Ev.succ ?_
    simp only [spec_l25Good.j0, if_true]
    exact Ev.now _
  all_goals
    simp only [h1, h2, h3, h4, false_and, and_false, decide_true, decide_false, if_true, if_false, Bool.false_eq_true, Bool.false_and]
    refine Ev.succ ?_
    simp only [spec_l25Good.j0, if_true]
    exact Ev.now _
theorem iGood (day looms m : Int) (l : List S50) : Ev (fun k => impl_IsShop.f k day looms l m) (goodS day looms l m) := by
  unfold impl_IsShop.f impl_isDay.f goodS
  simp only [iIn, Option.bind_some]
  by_cases h1 : 0 ≤ day ∧ day ≤ 4000 <;> by_cases h2 : 1 ≤ looms ∧ looms ≤ 4 <;> by_cases h4 : l.length ≤ 8 <;> by_cases h3 : 0 ≤ m ∧ m ≤ 1000000
  · simp only [h1, h2, h3, h4, and_self, decide_true, if_true, Bool.true_and, if_neg (show ¬ ((l.length : Int) > 8) by omega), Bool.not_true]
    refine Ev.succ ?_
    simp only [impl_IsShop.j0, Bool.false_eq_true, if_false]
    exact iLoop day looms m l h4
  · simp only [h1, h2, h3, h4, and_self, false_and, and_false, decide_true, decide_false, if_true, Bool.false_and, if_neg (show ¬ ((l.length : Int) > 8) by omega), Bool.not_false]
    refine Ev.succ ?_
    simp only [impl_IsShop.j0, if_true]
    exact Ev.now _
  · simp only [h1, h2, h3, h4, and_self, and_false, decide_true, decide_false, if_true, Bool.false_and, if_pos (show ((l.length : Int) > 8) by omega)]
    refine Ev.succ ?_
    simp only [impl_IsShop.j0, if_true]
    exact Ev.now _
  · simp only [h1, h2, h3, h4, and_self, false_and, and_false, decide_true, decide_false, if_true, Bool.false_and, if_pos (show ((l.length : Int) > 8) by omega)]
    refine Ev.succ ?_
    simp only [impl_IsShop.j0, if_true]
    exact Ev.now _
  all_goals
    simp only [h1, h2, h3, h4, false_and, and_false, decide_true, decide_false, if_true, if_false, Bool.false_eq_true, Bool.false_and]
    refine Ev.succ ?_
    simp only [impl_IsShop.j0, if_true]
    exact Ev.now _
end Go.Proofs.Ytmhiaggpnkihcaa.M

namespace Go.Proofs.Ytmhiaggpnkihcaa.Q
open Go.RowKit Go.Proofs.YtmhiaggpnkihcaaW.PrintWords Go.Proofs.YtmhiaggpnkihcaaW.PrintLast Go.Proofs.YtmhiaggpnkihcaaW.PrintMore
set_option linter.unusedVariables false
set_option linter.unusedSimpArgs false

/-- THE ONE PURE STATEMENT of laws_FnExactRowsLeft. -/
def laws_FnExactRowsLeft.Pure : Prop := ∀ (a0_0 : Int) (a0_1 : Int) (l0_2 : List (S57)) (a0_3 : Int), g32 (⟨a0_0, a0_1, l0_2, a0_3⟩ : S32) → ∃ k, laws_FnExactRowsLeft.f k a0_0 a0_1 l0_2 a0_3 = some true
theorem laws_FnExactRowsLeft.walk (P : laws_FnExactRowsLeft.Pure) (a0_0 : Int) (a0_1 : Int) (l0_2 : List (S57)) (a0_3 : Int) (A0_2 : Option Addr) (c0_2 : Nat) (w : World) (hr0_2 : Kd.C k57 w A0_2 l0_2.length l0_2) (hc0_2 : l0_2.length ≤ c0_2) (q0 : g32 (⟨a0_0, a0_1, l0_2, a0_3⟩ : S32)) :
    Calls Try.prog 5 #[.agg #[.int .i64 a0_0, .int .i64 a0_1, .slice A0_2 l0_2.length c0_2, .int .i64 a0_3]] w fun e w' => e = .returned (.bool true) ∧ Below w.heap.size w w' := by
  obtain ⟨k, h⟩ := P a0_0 a0_1 l0_2 a0_3 q0
  refine (laws_FnExactRowsLeft.calls (k := k) (r := true) (w := w) (hr0_2 := hr0_2) (hc0_2 := hc0_2) (h := h)).mono ?_
  rintro e w' ⟨rfl, hd⟩
  exact ⟨rfl, hd⟩
end Go.Proofs.Ytmhiaggpnkihcaa.Q

namespace Go.Proofs.Ytmhiaggpnkihcaa.M
open Go.RowKit Go.Proofs.Ytmhiaggpnkihcaa.Q Go.Proofs.YtmhiaggpnkihcaaW.PrintWords Go.Proofs.YtmhiaggpnkihcaaW.PrintLast Go.Proofs.YtmhiaggpnkihcaaW.Pl Classical
set_option linter.unusedSimpArgs false
set_option linter.unusedVariables false

theorem good_at {day looms m : Int} {l : List S50} (h : goodS day looms l m = true) : (0 ≤ day ∧ day ≤ 4000) ∧ l.length ≤ 8 ∧ ∀ i, i < l.length → okC day looms (nth l i z50).f0 (nth l i z50).f1 (nth l i z50).f2 (nth l i z50).f3 (nth l i z50).f4 = true := by
  unfold goodS at h
  rw [Bool.and_eq_true, range_all] at h
  have h1 := of_decide_eq_true h.1
  refine ⟨h1.1, h1.2.2.2, fun i hi => ?_⟩
  have := h.2 i hi
  unfold okAt at this
  rw [Bool.and_eq_true] at this
  exact this.1
end Go.Proofs.Ytmhiaggpnkihcaa.M

namespace Go.Proofs.Ytmhiaggpnkihcaa.Q
open Go.RowKit Go.Proofs.YtmhiaggpnkihcaaW.PrintWords Go.Proofs.YtmhiaggpnkihcaaW.PrintLast Go.Proofs.YtmhiaggpnkihcaaW.PrintMore
set_option linter.unusedVariables false
set_option linter.unusedSimpArgs false

/-- THE ONE PURE STATEMENT of laws_FnExactCarpetStates. -/
def laws_FnExactCarpetStates.Pure : Prop := ∀ (a0_0 : Int) (a0_1 : Int) (l0_2 : List (S57)) (a0_3 : Int), g32 (⟨a0_0, a0_1, l0_2, a0_3⟩ : S32) → ∃ k, laws_FnExactCarpetStates.f k a0_0 a0_1 l0_2 a0_3 = some true
theorem laws_FnExactCarpetStates.walk (P : laws_FnExactCarpetStates.Pure) (a0_0 : Int) (a0_1 : Int) (l0_2 : List (S57)) (a0_3 : Int) (A0_2 : Option Addr) (c0_2 : Nat) (w : World) (hr0_2 : Kd.C k57 w A0_2 l0_2.length l0_2) (hc0_2 : l0_2.length ≤ c0_2) (q0 : g32 (⟨a0_0, a0_1, l0_2, a0_3⟩ : S32)) :
    Calls Try.prog 7 #[.agg #[.int .i64 a0_0, .int .i64 a0_1, .slice A0_2 l0_2.length c0_2, .int .i64 a0_3]] w fun e w' => e = .returned (.bool true) ∧ Below w.heap.size w w' := by
  obtain ⟨k, h⟩ := P a0_0 a0_1 l0_2 a0_3 q0
  refine (laws_FnExactCarpetStates.calls (k := k) (r := true) (w := w) (hr0_2 := hr0_2) (hc0_2 := hc0_2) (h := h)).mono ?_
  rintro e w' ⟨rfl, hd⟩
  exact ⟨rfl, hd⟩
end Go.Proofs.Ytmhiaggpnkihcaa.Q

namespace Go.Proofs.Ytmhiaggpnkihcaa.M
open Go.RowKit Go.Proofs.Ytmhiaggpnkihcaa.Q Go.Proofs.YtmhiaggpnkihcaaW.PrintWords Go.Proofs.YtmhiaggpnkihcaaW.PrintLast Go.Proofs.YtmhiaggpnkihcaaW.Pl Classical
set_option linter.unusedSimpArgs false

theorem rdI (l : List Int) (i : Nat) : rd l (i : Int) = nth l i 0 := by unfold rd nth; simp
theorem eqInts (l : List Int) (hm : l.length ≤ 1048576) : Ev (fun k => laws_eqIntS.f k l l) true := by
  unfold laws_eqIntS.f
  simp only [if_true]
  have h := scanE l.length (fun _ => true) true false (fun k i => laws_eqIntS.l0 k l l i) ?hs ?hb ?he
  case hs =>
    intro i r hi _ hr
    refine Ev.succ ?_
    simp only [laws_eqIntS.l0, if_pos (show (i : Int) < (l.length : Int) by omega), if_pos (show (0 : Int) ≤ (i : Int) by omega), if_true, w64 (x := (i : Int) + 1) (by omega)]
    exact hr
  case hb => intro i _ h; cases h
  case he =>
    refine Ev.succ ?_
    simp only [laws_eqIntS.l0, if_neg (show ¬ ((l.length : Int) < (l.length : Int)) by omega)]
    exact Ev.now _
  simpa using h
/-- The marks from 1 on. -/
def marks (n : Nat) : List Int := (List.range n).map fun j => ((j + 1 : Nat) : Int)
theorem marks_len (n : Nat) : (marks n).length = n := by unfold marks; simp
theorem marks_nth (n i : Nat) (h : i < n) : nth (marks n) i 0 = ((i + 1 : Nat) : Int) := by rw [nth_get (by rw [marks_len]; exact h)]; unfold marks; simp
theorem markInts (l : List Int) (hm : l.length ≤ 1048576) : Ev (fun k => laws_markIntS.f k l 1) (((l.length + 1 : Nat) : Int), marks l.length) := by
  have main : ∀ d (i : Nat) (a : List Int), a.length = l.length → l.length - i = d → i ≤ l.length → (∀ j, j < i → nth a j 0 = ((j + 1 : Nat) : Int)) → Ev (fun k => laws_markIntS.l0 k a ((i + 1 : Nat) : Int) (i : Int)) (((l.length + 1 : Nat) : Int), marks l.length) := by
    intro d
    induction d with
    | zero =>
      intro i a ha hd hi hj
      have hil : i = l.length := by omega
      refine Ev.succ ?_
      simp only [laws_markIntS.l0, if_neg (show ¬ ((i : Int) < (a.length : Int)) by omega)]
      have e : a = marks l.length := by
        apply List.ext_getElem (by rw [ha, marks_len])
        intro j h1 h2
        rw [marks_len] at h2
        have := hj j (by omega)
        rw [nth_get h1] at this
        have h3 := marks_nth l.length j h2
        rw [nth_get (by rw [marks_len]; exact h2)] at h3
        rw [this, h3]
      rw [e, hil]
      exact Ev.now _
    | succ d ih =>
      intro i a ha hd hi hj
      refine Ev.succ ?_
      simp only [laws_markIntS.l0, if_pos (show (i : Int) < (a.length : Int) by omega), if_pos (show (0 : Int) ≤ (i : Int) by omega), (show wrap64 ((i : Int) + 1) = ((i + 1 : Nat) : Int) by rw [w64 (by omega)]; omega), (show wrap64 (((i + 1 : Nat) : Int) + 1) = ((i + 1 + 1 : Nat) : Int) by rw [w64 (by omega)]; omega), Int.toNat_natCast]
      refine ih (i + 1) _ (by simp [ha]) (by omega) (by omega) (fun j hj2 => ?_)
      rw [nth_get (by simp; omega)]
      by_cases e : j = i
      · subst e; simp
      · rw [List.getElem_set_ne (by omega)]
        have := hj j (by omega)
        rwa [nth_get (by omega)] at this
  exact main l.length 0 l rfl (by omega) (by omega) (fun j hj => by omega)
theorem heldInts (n : Nat) (hm : n ≤ 1048576) : Ev (fun k => laws_heldIntS.f k (marks n) 1) ((n + 1 : Nat) : Int) := by
  have main : ∀ d (i : Nat), n - i = d → i ≤ n → Ev (fun k => laws_heldIntS.l0 k (marks n) ((i + 1 : Nat) : Int) (i : Int)) ((n + 1 : Nat) : Int) := by
    have hl := marks_len n
    intro d
    induction d with
    | zero =>
      intro i hd hi
      have hil : i = n := by omega
      refine Ev.succ ?_
      simp only [laws_heldIntS.l0, if_neg (show ¬ ((i : Int) < ((marks n).length : Int)) by omega)]
      rw [hil]
      exact Ev.now _
    | succ d ih =>
      intro i hd hi
      refine Ev.succ ?_
      simp only [laws_heldIntS.l0, if_pos (show (i : Int) < ((marks n).length : Int) by omega), if_pos (show (0 : Int) ≤ (i : Int) by omega), rdI, marks_nth n i (by omega), if_true, (show wrap64 ((i : Int) + 1) = ((i + 1 : Nat) : Int) by rw [w64 (by omega)]; omega), (show wrap64 (((i + 1 : Nat) : Int) + 1) = ((i + 1 + 1 : Nat) : Int) by rw [w64 (by omega)]; omega)]
      exact ih (i + 1) (by omega) (by omega)
  exact main n 0 (by omega) (by omega)
end Go.Proofs.Ytmhiaggpnkihcaa.M

namespace Go.Proofs.Ytmhiaggpnkihcaa.M
open Go.RowKit Go.Proofs.Ytmhiaggpnkihcaa.Q Go.Proofs.YtmhiaggpnkihcaaW.PrintWords Go.Proofs.YtmhiaggpnkihcaaW.PrintLast Go.Proofs.YtmhiaggpnkihcaaW.Pl Classical
set_option linter.unusedSimpArgs false
set_option linter.unusedVariables false

theorem markStepCarpet (l : List S50) (m i : Int) (h0 : 0 ≤ i) (h1 : i < (l.length : Int)) : ∃ b : List S50, b.length = l.length ∧ ∀ k, laws_markCarpetS.l0 (k + 1) l m i = laws_markCarpetS.l0 k b (wrap64 ((wrap64 ((wrap64 ((wrap64 ((wrap64 (m + 1)) + 1)) + 1)) + 1)) + 1)) (wrap64 (i + 1)) := by
  simp only [laws_markCarpetS.l0, if_pos h1, if_pos h0]
  generalize (i.toNat) = j
  refine bindLen _ _ (fun b k => laws_markCarpetS.l0 k b _ _) (by rw [List.length_set]) (fun b1 hb1 => ?_)
  refine bindLen _ _ (fun b k => laws_markCarpetS.l0 k b _ _) (by rw [List.length_set]; exact hb1) (fun b2 hb2 => ?_)
  refine bindLen _ _ (fun b k => laws_markCarpetS.l0 k b _ _) (by rw [List.length_set]; exact hb2) (fun b3 hb3 => ?_)
  refine bindLen _ _ (fun b k => laws_markCarpetS.l0 k b _ _) (by rw [List.length_set]; exact hb3) (fun b4 hb4 => ?_)
  exact ⟨_, by rw [List.length_set]; exact hb4, fun _ => rfl⟩
/-- A list of them is marked: the marks stay positive. -/
theorem markCarpets (l : List S50) (hm : l.length ≤ 1048576) : ∃ l', Ev (fun k => laws_markCarpetS.f k l 1) (((5 * l.length + 1 : Nat) : Int), l') := by
  have main : ∀ d (i m : Nat) (a : List S50), m = 5 * i + 1 → a.length = l.length → l.length - i = d → i ≤ l.length → ∃ l', Ev (fun k => laws_markCarpetS.l0 k a (m : Int) (i : Int)) (((5 * l.length + 1 : Nat) : Int), l') := by
    intro d
    induction d with
    | zero =>
      intro i m a hmi ha hd hi
      have hil : i = l.length := by omega
      refine ⟨a, Ev.succ ?_⟩
      simp only [laws_markCarpetS.l0, if_neg (show ¬ ((i : Int) < (a.length : Int)) by omega)]
      rw [hmi, hil]
      exact Ev.now _
    | succ d ih =>
      intro i m a hmi ha hd hi
      have hb1 : m < 4611686018427380000 := by omega
      obtain ⟨b, hb, hs⟩ := markStepCarpet a (m : Int) (i : Int) (by omega) (by omega)
      rw [stepI (m) (by omega), stepI (m + 1) (by omega), stepI (m + 1 + 1) (by omega), stepI (m + 1 + 1 + 1) (by omega), stepI (m + 1 + 1 + 1 + 1) (by omega), stepI i (by omega)] at hs
      obtain ⟨l', h⟩ := ih (i + 1) (m + 1 + 1 + 1 + 1 + 1) b (by clear hs; omega) (by clear hs; omega) (by clear hs; omega) (by clear hs; omega)
      refine ⟨l', Ev.succ ?_⟩
      have : (fun k => laws_markCarpetS.l0 (k + 1) a (m : Int) (i : Int)) = (fun k => laws_markCarpetS.l0 k b ((m + 1 + 1 + 1 + 1 + 1 : Nat) : Int) ((i + 1 : Nat) : Int)) := funext hs
      rw [this]
      exact h
  exact main l.length 0 1 l rfl rfl (by omega) (by omega)
theorem markShopE (day looms m : Int) (l : List S50) (hm : l.length ≤ 1048576) : ∃ p : Int × List S50, 0 ≤ p.1 ∧ Ev (fun k => laws_markShop.f k day looms l m 1) p := by
  obtain ⟨l', h⟩ := markCarpets l hm
  refine ⟨(((5 * l.length + 1 : Nat) : Int), l'), by simp only; omega, ?_⟩
  unfold laws_markShop.f
  exact Ev.bind h (Ev.now _)
/-- No carpet is on a loom. -/
def freeL (l : List S50) (v : Int) : Bool := (List.range l.length).all fun i => (nth l i z50).f3 != v
theorem onLoom_free (day looms : Int) (l : List S50) (hok : ∀ i, i < l.length → okC day looms (nth l i z50).f0 (nth l i z50).f1 (nth l i z50).f2 (nth l i z50).f3 (nth l i z50).f4 = true) (v : Int) (hv : 1 ≤ v) :
    (idx (fun x : S50 => decide (x.f2 = 1) && decide (x.f3 = v)) l < 0) ↔ freeL l v = true := by
  have hnn := idx_nonneg (fun x : S50 => decide (x.f2 = 1) && decide (x.f3 = v)) l
  unfold freeL
  rw [range_all]
  constructor
  · intro h i hi
    rw [decide_eq_false (by omega)] at hnn
    have h1 := List.any_eq_false.1 hnn.symm _ (nth_mem (z := z50) hi)
    have h2 := (okC_loom (hok i hi)).2
    by_cases e : (nth l i z50).f3 = v
    · exfalso
      apply h1
      rw [decide_eq_true (h2 (by omega)), decide_eq_true e]; rfl
    · simp [e]
  · intro h
    have h1 : l.any (fun x : S50 => decide (x.f2 = 1) && decide (x.f3 = v)) = false := by
      rw [List.any_eq_false]
      intro x hx
      obtain ⟨i, hi, rfl⟩ := List.getElem_of_mem hx
      have h2 := h i hi
      rw [nth_get hi] at h2
      have h3 : (l[i]).f3 ≠ v := by simpa using h2
      simp [h3]
    rw [h1] at hnn
    have := of_decide_eq_false hnn
    omega
theorem sFree (day looms m : Int) (l : List S50) (hl : l.length ≤ 8) (v : Int) (s : List Int) (q : List Int × Bool)
    (hq : ∀ b, b = freeL l v → Ev (fun k => if b = true then (if s.length < 17592186044416 then (spec_FreeLooms.l0 k (s ++ [v]) (wrap64 (v + 1)) day looms l m) else (none)) else (spec_FreeLooms.l0 k s (wrap64 (v + 1)) day looms l m)) q) :
    Ev (fun k => spec_FreeLooms.l1 k s v true 0 day looms l m) q := by
  have main : ∀ d (i : Nat) (b : Bool), l.length - i = d → i ≤ l.length → (b = true ↔ ∀ j, j < i → ((nth l j z50).f3 != v) = true) → Ev (fun k => spec_FreeLooms.l1 k s v b (i : Int) day looms l m) q := by
    intro d
    induction d with
    | zero =>
      intro i b hd hi hb
      have hil : i = l.length := by omega
      subst hil
      refine Ev.succ ?_
      simp only [spec_FreeLooms.l1, if_neg (show ¬ ((l.length : Int) < (l.length : Int)) by omega)]
      refine hq b ?_
      unfold freeL
      rw [Bool.eq_iff_iff, range_all]
      exact hb
    | succ d ih =>
      intro i b hd hi hb
      refine Ev.succ ?_
      simp only [spec_FreeLooms.l1, if_pos (show (i : Int) < (l.length : Int) by omega), if_pos (show (0 : Int) ≤ (i : Int) by omega), rd50, stepI i (by omega)]
      cases b with
      | true =>
        simp only [if_true]
        refine ih (i + 1) _ (by omega) (by omega) ?_
        have hb' := hb.1 rfl
        constructor
        · intro h j hj
          by_cases e : j = i
          · subst e; exact h
          · exact hb' j (by omega)
        · intro h; exact h i (by omega)
      | false =>
        simp only [Bool.false_eq_true, if_false]
        refine ih (i + 1) _ (by omega) (by omega) ?_
        constructor
        · intro h; cases h
        · intro h
          exact hb.2 (fun j hj => h j (by omega))
  exact main l.length 0 true (by omega) (by omega) ⟨fun _ j hj => by omega, fun _ => rfl⟩
theorem freeBoth (day looms m : Int) (l : List S50) : ∃ q : List Int × Bool, q.1.length ≤ 1048576 ∧ Ev (fun k => spec_FreeLooms.f k day looms l m) q ∧ Ev (fun k => impl_FreeLooms.f k day looms l m) q := by
  unfold spec_FreeLooms.f impl_FreeLooms.f
  simp only [Option.bind_some]
  by_cases hg : goodS day looms l m = true
  · obtain ⟨_, hl, hok⟩ := good_at hg
    have hlo : 1 ≤ looms ∧ looms ≤ 4 := by
      unfold goodS at hg
      rw [Bool.and_eq_true] at hg
      exact (of_decide_eq_true hg.1).2.1
    have main : ∀ d (v : Nat) (s : List Int), 5 - v = d → 1 ≤ v → v ≤ 5 → s.length ≤ v → ∃ q : List Int × Bool, q.1.length ≤ 1048576 ∧ Ev (fun k => spec_FreeLooms.l0 k s (v : Int) day looms l m) q ∧ Ev (fun k => impl_FreeLooms.l0 k s (v : Int) day looms l m) q := by
      intro d
      induction d with
      | zero =>
        intro v s hd hv1 hv hs
        refine ⟨(s, true), by simp only; omega, Ev.succ ?_, Ev.succ ?_⟩
        · simp only [spec_FreeLooms.l0, if_neg (show ¬ ((v : Int) ≤ looms) by omega)]
          exact Ev.now _
        · simp only [impl_FreeLooms.l0, if_neg (show ¬ ((v : Int) ≤ looms) by omega)]
          exact Ev.now _
      | succ d ih =>
        intro v s hd hv1 hv hs
        by_cases hle : (v : Int) ≤ looms
        · obtain ⟨q1, hq1, h1, h2⟩ := ih (v + 1) (s ++ [(v : Int)]) (by omega) (by omega) (by omega) (by simp; omega)
          obtain ⟨q0, hq0, h3, h4⟩ := ih (v + 1) s (by omega) (by omega) (by omega) (by omega)
          have hfr := onLoom_free day looms l hok (v : Int) (by omega)
          cases hf : freeL l (v : Int) with
          | true =>
            refine ⟨q1, hq1, Ev.succ ?_, Ev.succ ?_⟩
            · simp only [spec_FreeLooms.l0, if_pos hle]
              refine sFree day looms m l hl _ _ _ (fun b hb => ?_)
              rw [hb, hf]
              simp only [if_true, if_pos (show s.length < 17592186044416 by omega), stepI v (by omega)]
              exact h1
            · simp only [impl_FreeLooms.l0, if_pos hle, impl_Shop_onLoom.f, Option.bind_some, if_pos (hfr.2 hf), if_pos (show s.length < 17592186044416 by omega), stepI v (by omega)]
              exact h2
          | false =>
            have hfr' : ¬ (idx (fun x : S50 => decide (x.f2 = 1) && decide (x.f3 = (v : Int))) l < 0) := fun h => by rw [hfr.1 h] at hf; cases hf
            refine ⟨q0, hq0, Ev.succ ?_, Ev.succ ?_⟩
            · simp only [spec_FreeLooms.l0, if_pos hle]
              refine sFree day looms m l hl _ _ _ (fun b hb => ?_)
              rw [hb, hf]
              simp only [Bool.false_eq_true, if_false, stepI v (by omega)]
              exact h3
            · simp only [impl_FreeLooms.l0, if_pos hle, impl_Shop_onLoom.f, Option.bind_some, if_neg hfr', stepI v (by omega)]
              exact h4
        · refine ⟨(s, true), by simp only; omega, Ev.succ ?_, Ev.succ ?_⟩
          · simp only [spec_FreeLooms.l0, if_neg hle]
            exact Ev.now _
          · simp only [impl_FreeLooms.l0, if_neg hle]
            exact Ev.now _
    obtain ⟨q, hq, h1, h2⟩ := main 4 1 [] rfl (by omega) (by omega) (by simp)
    refine ⟨q, hq, Ev.bind (sGood day looms m l) ?_, Ev.bind (iGood day looms m l) ?_⟩
    · simp only [hg, if_true]; exact h1
    · simp only [hg, if_true]; exact h2
  · refine ⟨([], false), by simp, Ev.bind (sGood day looms m l) ?_, Ev.bind (iGood day looms m l) ?_⟩
    · simp only [hg, if_false, Bool.false_eq_true]; exact Ev.now _
    · simp only [hg, if_false, Bool.false_eq_true]; exact Ev.now _
end Go.Proofs.Ytmhiaggpnkihcaa.M

namespace Go.Proofs.Ytmhiaggpnkihcaa.Pure
open Go.RowKit Go.Proofs.Ytmhiaggpnkihcaa.Q Go.Proofs.Ytmhiaggpnkihcaa.M Go.Proofs.YtmhiaggpnkihcaaW.PrintWords Go.Proofs.YtmhiaggpnkihcaaW.Pl
set_option linter.unusedSimpArgs false

theorem FnExactFreeLooms : laws_FnExactFreeLooms.Pure := by
  intro day looms l m hg
  have hm : l.length ≤ maxLen := by
    unfold g32 at hg
    exact hg.2.2.1.1
  refine Ev.rounds ?_
  unfold laws_FnExactFreeLooms.f
  obtain ⟨r, hr, hs⟩ := szShop day looms m l hm
  rw [hr]
  simp only [Option.bind_some]
  by_cases h : 1048576 < l.length
  · simp only [if_pos (hs.2 h)]
    exact Ev.now _
  · have hl : (l.map cvC).length ≤ 1048576 := by simp; omega
    have hto : Ev (fun k => laws_toShop.f k day looms l m) (day, looms, l.map cvC, m) := by
      unfold laws_toShop.f
      exact Ev.bind (toCarpets l (by omega)) (Ev.now _)
    have hsz : ¬ r < 0 := fun h2 => h (hs.1 h2)
    obtain ⟨q, hq, hS, hI⟩ := freeBoth day looms m (l.map cvC)
    obtain ⟨p, hp, hmk⟩ := markShopE day looms m (l.map cvC) hl
    have hp' : ¬ p.1 < 0 := by omega
    have hQ : q.1.length ≤ 1048576 := by omega
    have heq : Ev (fun k => laws_eqShop.f k day looms (l.map cvC) m day looms (l.map cvC) m) true := by
      unfold laws_eqShop.f
      simp only [if_true]
      exact Ev.bind (eqCarpets _ hl) (by simp only [if_true]; exact Ev.now _)
    have hei := eqInts _ hQ
    have hmi := markInts _ hQ
    have hhi := heldInts _ hQ
    have hn : ¬ (((q.1.length + 1 : Nat) : Int) < 0) := by omega
    simp only [if_neg hsz]
    repeat' first
      | exact Ev.now _
      | (with_reducible refine Ev.bind hto ?_)
      | (with_reducible refine Ev.bind hS ?_)
      | (with_reducible refine Ev.bind hI ?_)
      | (with_reducible refine Ev.bind hei ?_)
      | (with_reducible refine Ev.bind heq ?_)
      | (with_reducible refine Ev.bind hmk ?_)
      | (with_reducible refine Ev.bind hmi ?_)
      | (with_reducible refine Ev.bind hhi ?_)
      | simp only [if_true, bne_self_eq_false, Bool.false_eq_true, if_false, if_neg hp', if_neg hn]
      | (refine Ev.succ ?_; simp only [laws_FnExactFreeLooms.j0, laws_FnExactFreeLooms.j1, laws_FnExactFreeLooms.j2, Bool.false_eq_true, if_false])
end Go.Proofs.Ytmhiaggpnkihcaa.Pure

namespace Go.Proofs.Ytmhiaggpnkihcaa.fnExactFreeLooms
open Go.ChangeShapes Go.WideShapes Go.ChangeAt Go.RowKit Go.Proofs.Ytmhiaggpnkihcaa.Q Go.Proofs.YtmhiaggpnkihcaaW.Open Go.Proofs.YtmhiaggpnkihcaaW.PrintWords
set_option linter.unusedVariables false
theorem own : ownKnob Try.prog.godebug = none := by kernel_rfl
theorem laidOut : laidOutB Try.prog = true := by kernel_rfl
set_option maxRecDepth 100000 in
theorem lifted (os : Os) (started : os.Started) (H : Type) (enc : TypeId × Value → H) :
    ReturnsInHanded {} Try.checked os 8 .any (Rows.fnExactFreeLoomsSpec.pre6 enc Try.prog Try.f8 Rows.fnExactFreeLoomsRow.domain false) (Rows.fnExactFreeLoomsSpec.post enc Try.prog Try.f8 false true false false) := by
  refine returnsInHanded_of_change_sized (C := Try.checked) own started (by kernel_rfl) Try.func8
    (ChangeSpec.witness6 (enc := enc) (C := Try.checked) false ⟨#[], #[.agg #[.int .i64 0, .int .i64 0, .slice none 0 0, .int .i64 0]], []⟩ 8 (by kernel_rfl) (by kernel_rfl) (by kernel_rfl) (by kernel_rfl)) ?_
  intro W base args ds gs before hval0 hW hcnd hsz0 _
  have hval : ∀ (j : Nat) t v, Try.f8.params[j]? = some t → args[j]? = some v → Value.okWide Try.prog W .any base t v := hval0
  have hW' := hW
  obtain ⟨p, q, hA0, hV, rfl, hfz, hnd⟩ := hW
  have hA : DataW.TrodAll enc Try.prog W 0 (fun _ => true) true Try.f8.params.toList args.toList ds p := hA0
  rw [Try.params8] at hA hval
  obtain ⟨v0, vs0, d0, ds0, p0, q0, hargs, rfl, rfl, h0, r0⟩ := trodAll_cons hA
  obtain ⟨rfl, rfl, rfl⟩ := trodAll_nil r0
  obtain rfl : args = #[v0] := by cases args; simp_all
  obtain ⟨rfl, rfl⟩ := trodVars_none hV
  have k0 := h0
  have lt0 : ∀ x ∈ p0, x.block < W.heap.size := by obtain ⟨m, hm⟩ := k0; exact DataW.trod_lt m _ _ _ hm
  obtain ⟨cs0, rfl, _⟩ := okWide_struct Try.underlying32 (hval 0 32 v0 rfl rfl)
  obtain ⟨fu0, hf0⟩ := h0
  obtain ⟨x0, hk0, q0⟩ := (opn32).out hf0
  have ho0 := k32_open hk0
  obtain ⟨A0_2, c0_2, ho0, hc0_2, hr0_2⟩ := ho0
  obtain rfl : cs0 = #[.int .i64 x0.f0, .int .i64 x0.f1, .slice A0_2 x0.f2.length c0_2, .int .i64 x0.f3] := by cases cs0; simpa [Value.cells] using ho0
  refine (laws_FnExactFreeLooms.walk Pure.FnExactFreeLooms x0.f0 x0.f1 x0.f2 x0.f3 A0_2 c0_2 W hr0_2 hc0_2 q0).mono fun e W' ⟨he, bel⟩ => ?_
  subst he
  exact ⟨_, rfl, _, _, _, [], _, [], hW', trodAll_mk1 (shut_bool Try.underlying4 _), (trodAll_cons_mk (Below.trod laidOut (by kernel_rfl) (of_decide_eq_true (by kernel_rfl)) k0 bel lt0) trodAll_mk0), rfl, bel.frame _, fun h => by cases h⟩
theorem over : Rows.fnExactFreeLoomsRow.holds Try.pinned (OpenSpec.ofChange Rows.fnExactFreeLoomsSpec) :=
  OpenClaim.holds_of_wide 8 Try.f8 rfl rfl rfl rfl rfl rfl rfl ⟨rfl, rfl, rfl, rfl, rfl⟩ rfl rfl rfl rfl rfl (by kernel_rfl) Try.func8 (by kernel_rfl)
    (of_decide_eq_true (by kernel_rfl)) (by unfold Func.isWrapper; first | (rw [if_pos (by decide +kernel)]; kernel_rfl) | (rw [if_neg (by decide +kernel)]; exact ⟨rfl, rfl⟩))
    (fun os started H enc _ => lifted os started H enc)
theorem proved : Rows.FnExactFreeLoomsSaid := over
end Go.Proofs.Ytmhiaggpnkihcaa.fnExactFreeLooms
namespace Go.Proofs.Ytmhiaggpnkihcaa
/-- The row, under a short name, for the claim. -/
theorem fnExactFreeLooms_holds : Rows.FnExactFreeLoomsSaid := fnExactFreeLooms.proved
end Go.Proofs.Ytmhiaggpnkihcaa

#print axioms Go.Proofs.Ytmhiaggpnkihcaa.fnExactFreeLooms_holds
