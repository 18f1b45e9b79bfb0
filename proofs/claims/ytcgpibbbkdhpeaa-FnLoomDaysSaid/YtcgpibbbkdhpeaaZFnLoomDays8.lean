import Derived.Deep.Slices
import Derived.ChangeArms
import Derived.DataReads
import Derived.Carry
import Derived.Laws.Tables
import Derived.Laws.Rows
import Derived.OrdersHeld
import Derived.Lib.OthersKept
import Derived.Laws.BitsLemmas
import Derived.KernelRfl
import Derived.Test.YtcgpibbbkdhpeaaRows
import Derived.WalkKit
import Derived.ProofKit
import Derived.OpenShut
import Derived.ShutString
import Derived.ChangeOld
import Derived.Below
import Derived.SizedLaws
import Derived.ChangeVars
import Derived.Test.YtcgpibbbkdhpeaaZFnLoomDays7
namespace Go.Proofs.YtcgpibbbkdhpeaaW.Open
open Go.ChangeShapes Go.WideShapes Go.Deep Go.Proofs.YtcgpibbbkdhpeaaW.PrintWords

/-- Whatever reads as data of type t lies in memory as a value of kind d that is good. -/
structure Opn {α : Type} (P : Program) (d : Kd α) (t : TypeId) (good : α → Prop) : Prop where
  out : ∀ {H : Type} {enc : TypeId × Value → H} {w : World} {base : Nat} {spare : Nat → Bool} {held : Bool} {fuel : Nat} {cs : List Value} {x : DataW H × List MemPlace},
    DataW.trod enc P w base spare held fuel t cs = some x → ∃ a, d.K w a cs ∧ good a

/-- One for each place: a list of them. -/
theorem list_of {α : Type} {Q : Nat → α → Prop} : ∀ {len : Nat}, (∀ i, i < len → ∃ p : α, Q i p) → ∃ l : List α, l.length = len ∧ ∀ i p, l[i]? = some p → Q i p
  | 0, _ => ⟨[], rfl, by simp⟩
  | n + 1, h => by
    obtain ⟨l, hl1, hl2⟩ := list_of (len := n) (fun i hi => h i (by omega))
    obtain ⟨p, hp⟩ := h n (by omega)
    refine ⟨l ++ [p], by simp [hl1], fun i q hq => ?_⟩
    by_cases hil : i < n
    · rw [List.getElem?_append_left (by omega)] at hq
      exact hl2 i q hq
    · have hin : i = n := by
        have := (List.getElem?_eq_some_iff.1 hq).1
        simp [hl1] at this
        omega
      subst hin
      rw [List.getElem?_append_right (by omega)] at hq
      simp [hl1] at hq
      subst hq
      exact hp

section
variable {P : Program}
theorem Opn.int {t : TypeId} {k : IntKind} (ht : P.underlying t = some (.int k)) : Opn P (Kd.int k) t (fun n => (Lit.int k n).wf = true) := by
  constructor; intro H enc w base spare held fuel cs x h
  cases fuel with
  | zero => simp [DataW.trod] at h
  | succ m =>
    unfold DataW.trod at h
    rw [ht] at h
    split at h <;> simp_all
    exact ⟨_, rfl, by simp_all⟩
theorem Opn.bool {t : TypeId} (ht : P.underlying t = some .bool) : Opn P Kd.bool t (fun _ => True) := by
  constructor; intro H enc w base spare held fuel cs x h
  cases fuel with
  | zero => simp [DataW.trod] at h
  | succ m =>
    unfold DataW.trod at h
    rw [ht] at h
    split at h
    all_goals first | exact ⟨_, rfl, trivial⟩ | simp_all
theorem Opn.slice {α : Type} {d : Kd α} {t e : TypeId} {g : α → Prop} (ht : P.underlying t = some (.slice e)) {n0 : Nat} (hc0 : P.cellsOf e = n0) (hs0 : d.sz = n0) (he : Opn P d e g) :
    Opn P (Kd.slice e d) t (fun l => l.length ≤ maxLen ∧ ∀ x ∈ l, g x) := by
  have hc : P.cellsOf e = d.sz := hc0.trans hs0.symm
  constructor; intro H enc w base spare held fuel cs x h
  rcases open_slice ht h with ⟨rfl, _⟩ | ⟨a, len, cap, m, n, D, Pl, rfl, _, hl, hm, hmm, _, hi⟩
  · exact ⟨[], ⟨none, 0, rfl, Nat.le_refl _, rfl, by simp, fun h => absurd h (by simp)⟩, by simp, by simp⟩
  · have hlm : len ≤ m := by rw [hmm]; split <;> omega
    have hone : ∀ i, i < len → ∃ p : α, g p ∧ ∃ c, c.length = d.sz ∧ d.K w p c ∧ ∀ j u, c[j]? = some u → w.cell? (a.add (i * d.sz + j)) = some u := by
      intro i hil
      obtain ⟨cs', hcs, htr⟩ := hi i (by omega)
      obtain ⟨p, hp, hg⟩ := he.out htr
      obtain ⟨_, hlen, hat⟩ := World.cells?_some hcs
      refine ⟨p, hg, cs', hlen.trans hc, hp, fun j u hj => ?_⟩
      have hjl : j < P.cellsOf e := by have := (List.getElem?_eq_some_iff.1 hj).1; omega
      have := hat j hjl
      rw [hc] at this
      rw [← Go.Deep.add_add, this, hj]
    have hall := list_of hone
    obtain ⟨l, rfl, hl2⟩ := hall
    refine ⟨l, ⟨some a, cap, rfl, hl, rfl, by unfold maxLen at hm; omega, fun _ => ⟨a, rfl, fun j p hj => (hl2 j p hj).2⟩⟩, by omega, fun x hx => ?_⟩
    obtain ⟨i, hi, rfl⟩ := List.getElem_of_mem hx
    exact (hl2 i _ (List.getElem?_eq_getElem hi)).1
theorem Opn.iso {α β : Type} {d : Kd α} {t : TypeId} {g : α → Prop} (f : β → α) (b : α → β) (hfb : ∀ a, f (b a) = a) (h : Opn P d t g) : Opn P (Kd.iso d f) t (fun x => g (f x)) := by
  constructor; intro H enc w base spare held fuel cs x hx
  obtain ⟨a, hk, hg⟩ := h.out hx
  exact ⟨b a, by show d.K w (f (b a)) cs; rw [hfb]; exact hk, by show g (f (b a)); rw [hfb]; exact hg⟩

def andG {α β : Type} (g : α → Prop) (gs : β → Prop) : α × β → Prop := fun x => g x.1 ∧ gs x.2
/-- The fields of a struct, from one on. -/
structure OpnF {α : Type} (P : Program) (d : Kd α) (off : Nat) (fs : List Field) (good : α → Prop) : Prop where
  out : ∀ {H : Type} {enc : TypeId × Value → H} {w : World} {base : Nat} {spare : Nat → Bool} {held : Bool} {fuel : Nat} {cs : List Value},
    cs.length = off + d.sz → (∀ f ∈ fs, ∃ y, DataW.trod enc P w base spare held fuel f.type ((cs.drop f.offset).take (P.cellsOf f.type)) = some y) → ∃ a, d.K w a (cs.drop off) ∧ good a
theorem OpnF.one {α : Type} {d : Kd α} {f : Field} {g : α → Prop} {off : Nat} (ho : f.offset = off) {n0 : Nat} (hc0 : P.cellsOf f.type = n0) (hs0 : d.sz = n0) (h : Opn P d f.type g) : OpnF P d off [f] g := by
  have hc : P.cellsOf f.type = d.sz := hc0.trans hs0.symm
  constructor; intro H enc w base spare held fuel cs hl hf
  obtain ⟨y, hy⟩ := hf f (by simp)
  rw [ho, hc, List.take_of_length_le (by simp; omega)] at hy
  exact h.out hy
theorem OpnF.cons {α β : Type} {d : Kd α} {ds : Kd β} {f : Field} {fs : List Field} {g : α → Prop} {gs : β → Prop} {off : Nat} (ho : f.offset = off) {n0 : Nat} (hc0 : P.cellsOf f.type = n0) (hs0 : d.sz = n0) (h : Opn P d f.type g) (hs : OpnF P ds (off + d.sz) fs gs) :
    OpnF P (Kd.pair d ds) off (f :: fs) (andG g gs) := by
  have hc : P.cellsOf f.type = d.sz := hc0.trans hs0.symm
  constructor; intro H enc w base spare held fuel cs hl hf
  obtain ⟨y, hy⟩ := hf f (by simp)
  rw [ho, hc] at hy
  obtain ⟨a, ha, hga⟩ := h.out hy
  obtain ⟨b, hb, hgb⟩ := hs.out (cs := cs) (by rw [hl]; show off + (d.sz + ds.sz) = _; omega) (fun f' hf' => hf f' (List.mem_cons_of_mem _ hf'))
  refine ⟨(a, b), ⟨_, _, ?_, ha, hb⟩, hga, hgb⟩
  rw [← List.drop_drop, List.take_append_drop]
theorem Opn.struct {α : Type} {d : Kd α} {t : TypeId} {L : List Field} {g : α → Prop} (ht : P.underlying t = some (.struct L.toArray)) {n0 : Nat} (hc0 : P.cellsOf t = n0) (hs0 : d.sz = n0) (h : OpnF P d 0 L g) : Opn P d t g := by
  have hc : P.cellsOf t = d.sz := hc0.trans hs0.symm
  constructor; intro H enc w base spare held fuel cs x hx
  obtain ⟨xs, n, _, _, hlen, hxs, hf⟩ := DataW.trod_struct ht hx
  obtain ⟨a, ha, hg⟩ := h.out (enc := enc) (w := w) (base := base) (spare := spare) (held := held) (fuel := n) (cs := cs) (by rw [hlen, hc]; omega) (fun f hm => by
    obtain ⟨i, hi, rfl⟩ := List.getElem_of_mem hm
    have h1 := hf i L[i] (by simp [hi])
    have hi2 : i < xs.length := by simp at hxs; omega
    exact ⟨xs[i], h1.trans (List.getElem?_eq_getElem hi2)⟩)
  exact ⟨a, by simpa using ha, hg⟩
end
end Go.Proofs.YtcgpibbbkdhpeaaW.Open

namespace Go.Proofs.YtcgpibbbkdhpeaaW.SL
open Go Go.RowKit Go.Proofs.YtcgpibbbkdhpeaaW.PrintWords
set_option linter.unusedSimpArgs false
set_option linter.unusedVariables false

/-! ### slots -/
abbrev Sl := List (Nat × Value)
def lk : Sl → Nat → Option Value
  | [], _ => none
  | (k, v) :: r, t => bif Nat.beq k t then some v else lk r t
def ev (L : Sl) : Operand → Option Value
  | .tmp t => lk L t
  | .const v => some v
  | .global g => some (.pointer (some ⟨g, 0, none⟩))
  | .func f => some (.func (.func f) #[] #[])
def evs (L : Sl) : List Operand → Option (List Value)
  | [] => some []
  | x :: r => match ev L x, evs L r with
    | some v, some vs => some (v :: vs)
    | _, _ => none
structure Fr (N : Nat) (a : Act) (L : Sl) : Prop where
  size : N ≤ a.tmps.size
  defers : a.defers = []
  at_ : ∀ t v, lk L t = some v → a.tmps[t]? = some v
section
variable {N : Nat} {a : Act} {L L' : Sl} {x : Operand} {v : Value}
theorem beq_no {k t : Nat} (e : ¬ k = t) : Nat.beq k t = false := by
  cases h : Nat.beq k t with
  | false => rfl
  | true => exact absurd (Nat.eq_of_beq_eq_true h) e
theorem Fr.ev (h : Fr N a L) (hx : ev L x = some v) : a.eval x = v := by
  cases x with
  | tmp t =>
    have := h.at_ t v hx
    simp only [Act.eval, Array.getD_eq_getD_getElem?, this, Option.getD_some]
  | const w => simpa [SL.ev, Act.eval] using hx
  | global g => simpa [SL.ev, Act.eval] using hx
  | func f => simpa [SL.ev, Act.eval] using hx
theorem Fr.evs (h : Fr N a L) : ∀ {xs : List Operand} {vs : List Value}, evs L xs = some vs → xs.map a.eval = vs
  | [], vs, hx => by simpa [SL.evs] using hx
  | x :: r, vs, hx => by
    unfold SL.evs at hx
    cases h1 : SL.ev L x with
    | none => simp [h1] at hx
    | some v =>
      cases h2 : SL.evs L r with
      | none => simp [h1, h2] at hx
      | some vs' =>
        simp only [h1, h2, Option.some.injEq] at hx
        subst hx
        simp [h.ev h1, h.evs h2]
theorem Fr.put (h : Fr N a L) {d : Nat} (hd : Nat.blt d N = true) (v : Value) : Fr N (a.put (some d) v) ((d, v) :: L) := by
  have hd' : d < N := by simpa [Nat.blt_eq] using hd
  refine ⟨by simpa [Act.put] using h.size, h.defers, fun t u hu => ?_⟩
  unfold lk at hu
  simp only [Act.put]
  by_cases e : d = t
  · subst e
    rw [show Nat.beq d d = true by simp] at hu
    simp only [cond_true, Option.some.injEq] at hu
    subst hu
    have := h.size
    rw [Array.getElem?_setIfInBounds_self_of_lt (by omega)]
  · rw [beq_no e] at hu
    simp only [cond_false] at hu
    rw [Array.getElem?_setIfInBounds_ne (by omega)]
    exact h.at_ t u hu
theorem Fr.put_none (h : Fr N a L) (v : Value) : Fr N (a.put none v) L := h
/-- What is told of the slots in L' is told in L. -/
def Sub : Sl → Sl → Prop
  | [], _ => True
  | p :: r, L => lk L p.1 = some p.2 ∧ Sub r L
theorem Sub.lk : ∀ {L' L : Sl}, Sub L' L → ∀ t v, lk L' t = some v → lk L t = some v
  | [], _, _, t, v, h => by simp [SL.lk] at h
  | p :: r, L, ⟨h1, h2⟩, t, v, h => by
    obtain ⟨k, u⟩ := p
    unfold SL.lk at h
    by_cases e : k = t
    · subst e
      rw [show Nat.beq k k = true by simp] at h
      simp only [cond_true, Option.some.injEq] at h
      subst h
      exact h1
    · rw [beq_no e] at h
      exact Sub.lk h2 t v h
theorem Fr.sub (h : Fr N a L) (hs : Sub L' L) : Fr N a L' := ⟨h.size, h.defers, fun t v hv => h.at_ t v (hs.lk t v hv)⟩
end
/-- Is the operation carried out (its guard)? -/
def wants (ops : Array Oper) (L : Sl) (o : Oper) : Option Bool :=
  match o.guard with
  | none => some true
  | some (j, want) => match (ops[j]?).bind (·.dst) with
    | none => none
    | some t => match lk L t with
      | some (.bool b) => some (b == want)
      | some (.tuple _) => some false
      | _ => none
theorem Fr.wants {N : Nat} {a : Act} {L : Sl} {ops : Array Oper} {o : Oper} {b : Bool} (h : Fr N a L) (hw : wants ops L o = some b) : Region.wanted o (yielded ops a.tmps) = b := by
  unfold SL.wants at hw
  unfold Region.wanted
  cases hg : o.guard with
  | none => simp only [hg, Option.some.injEq] at hw ⊢; exact hw
  | some p =>
    obtain ⟨j, want⟩ := p
    simp only [hg] at hw ⊢
    cases hj : (ops[j]?).bind (·.dst) with
    | none => simp [hj] at hw
    | some t =>
      simp only [hj] at hw
      cases hl : lk L t with
      | none => simp [hl] at hw
      | some u =>
        have := h.at_ t _ hl
        unfold yielded
        rw [hj, Option.bind_some, this]
        cases u <;> simp only [hl, Option.some.injEq, reduceCtorEq] at hw
        · rename_i c
          rw [← hw]
          cases c <;> cases want <;> rfl
        · rw [← hw]
          rfl

/-! ### memory -/
/-- A thing in memory that may be written: p w S: it is there, in the blocks S. -/
structure ItemS where
  p : World → (Nat → Prop) → Prop
  lt : ∀ {w S k}, p w S → S k → k < w.heap.size
  loc : ∀ {w w' : World} {S}, p w S → (∀ k, S k → w'.heap[k]? = w.heap[k]?) → p w' S
/-- A block of the call's own; a row of its own (elements of kind d and type e, made from block b on); anything else. -/
inductive Item : Type 1
  | box (g T : Nat) (cs : List Value)
  | row {α : Type} (d : Kd α) (e b : Nat) (v : Value) (xs : List α)
  /-- As row; no two elements lead to one block. -/
  | rowS {α : Type} (d : Kd α) (e b : Nat) (v : Value) (xs : List α)
  /-- As rowS, without element i: its cells are c, what it leads to (u) is told apart. -/
  | lent {α : Type} (d : Kd α) (e b : Nat) (v : Value) (xs : List α) (i : Int) (c : List Value) (u : Value)
  | any (i : ItemS)
def Item.p : Item → World → (Nat → Prop) → Prop
  | .box g T cs, w, S => w.heap[g]? = some (.cells cs.toArray T (0, 0)) ∧ ∀ k, S k ↔ k = g
  | .row d e b v xs, w, S => d.R e w b S v xs ∧ ∀ k, S k → k < w.heap.size
  | .rowS d e b v xs, w, S => Kd.S d e w b S v xs ∧ ∀ k, S k → k < w.heap.size
  | .lent d e b v xs i c u, w, S => ∃ ok oki : Nat → Prop, Kd.H d e w b ok v xs i oki c ∧ (∀ k, u.ownBlock = some k → oki k) ∧ (∀ k, S k ↔ (ok k ∧ ¬ oki k) ∧ k < w.heap.size) ∧ ∀ k, oki k → k < w.heap.size
  | .any i, w, S => i.p w S
theorem Item.lt : ∀ (i : Item) {w : World} {S : Nat → Prop} {k : Nat}, i.p w S → S k → k < w.heap.size
  | .box g T cs, w, S, k, h, hk => by rw [(h.2 k).1 hk]; exact blk_lt h.1
  | .row d e b v xs, w, S, k, h, hk => h.2 k hk
  | .rowS d e b v xs, w, S, k, h, hk => h.2 k hk
  | .lent d e b v xs i c u, w, S, k, ⟨_, _, _, _, h, _⟩, hk => ((h k).1 hk).2
  | .any i, w, S, k, h, hk => i.lt h hk
theorem Item.loc : ∀ (i : Item) {w w' : World} {S : Nat → Prop}, i.p w S → w.heap.size ≤ w'.heap.size → (∀ k, S k → w'.heap[k]? = w.heap[k]?) → i.p w' S
  | .box g T cs, w, w', S, h, _, hm => ⟨(hm g ((h.2 g).2 rfl)).trans h.1, h.2⟩
  | .row d e b v xs, w, w', S, h, hs, hm => ⟨Kd.R_move h.1 hm, fun k hk => Nat.lt_of_lt_of_le (h.2 k hk) hs⟩
  | .rowS d e b v xs, w, w', S, h, hs, hm => ⟨Kd.S_move h.1 hm, fun k hk => Nat.lt_of_lt_of_le (h.2 k hk) hs⟩
  | .lent d e b v xs i c u, w, w', S, ⟨ok, oki, h1, h2, h3, h4⟩, hs, hm => by
    have hb : Kd.H d e w b (fun k => ok k ∧ k < w.heap.size) v xs i oki c := by
      obtain ⟨g0, f, g1⟩ := h1
      exact ⟨fun k hk => ⟨g0 k hk, h4 k hk⟩, f, Kd.R_mono (Kd.R_bound g1) (fun k hk => ⟨⟨hk.1.1, hk.2.2.1⟩, hk.1.2⟩)⟩
    refine ⟨fun k => ok k ∧ k < w.heap.size, oki, Kd.H_step hb (fun k hk hn hlt => hm k ((h3 k).2 ⟨⟨hk.1, hn⟩, hlt⟩)), h2, fun k => ?_, fun k hk => Nat.lt_of_lt_of_le (h4 k hk) hs⟩
    rw [h3 k]
    constructor
    · rintro ⟨⟨g1, g2⟩, g3⟩
      exact ⟨⟨⟨g1, g3⟩, g2⟩, by omega⟩
    · rintro ⟨⟨⟨g1, g3⟩, g2⟩, _⟩
      exact ⟨⟨g1, g2⟩, g3⟩
  | .any i, w, w', S, h, _, hm => i.loc h hm
/-- All items, apart from one another, in the blocks S. -/
def Own : List Item → World → (Nat → Prop) → Prop
  | [], _, S => ∀ k, ¬ S k
  | i :: r, w, S => ∃ A B, i.p w A ∧ Own r w B ∧ (∀ k, S k ↔ A k ∨ B k) ∧ ∀ k, A k → ¬ B k
theorem Own.lt : ∀ {its : List Item} {w : World} {S : Nat → Prop}, Own its w S → ∀ k, S k → k < w.heap.size
  | [], _, _, h, k, hk => absurd hk (h k)
  | i :: r, w, S, ⟨A, B, h1, h2, h3, _⟩, k, hk => ((h3 k).1 hk).elim (fun ha => i.lt h1 ha) (fun hb => h2.lt k hb)
theorem Own.loc : ∀ {its : List Item} {w w' : World} {S : Nat → Prop}, Own its w S → w.heap.size ≤ w'.heap.size → (∀ k, S k → w'.heap[k]? = w.heap[k]?) → Own its w' S
  | [], _, _, _, h, _, _ => h
  | i :: r, w, w', S, ⟨A, B, h1, h2, h3, h4⟩, hs, hm => ⟨A, B, i.loc h1 hs (fun k hk => hm k ((h3 k).2 (.inl hk))), h2.loc hs (fun k hk => hm k ((h3 k).2 (.inr hk))), h3, h4⟩
/-- Item n by itself; and what stands there behind it. -/
theorem Own.focus : ∀ {its : List Item} {n : Nat} {i : Item} {w : World} {S : Nat → Prop}, its[n]? = some i → Own its w S → ∃ A, i.p w A ∧ (∀ k, A k → S k) ∧
    ∀ (w' : World) (i' : Item) (A' : Nat → Prop), i'.p w' A' → w.heap.size ≤ w'.heap.size → (∀ k, A' k → ¬ S k ∨ A k) → (∀ k, S k → ¬ A k → w'.heap[k]? = w.heap[k]?) → Own (its.set n i') w' (fun k => A' k ∨ (S k ∧ ¬ A k))
  | [], _, _, _, _, hn, _ => by simp at hn
  | j :: r, 0, i, w, S, hn, ⟨A, B, h1, h2, h3, h4⟩ => by
    obtain rfl : j = i := by simpa using hn
    refine ⟨A, h1, fun k hk => (h3 k).2 (.inl hk), fun w' i' A' hi' hs hA' hm => ?_⟩
    refine ⟨A', B, hi', h2.loc hs (fun k hk => hm k ((h3 k).2 (.inr hk)) (fun ha => h4 k ha hk)), fun k => ?_, fun k hk hb => ?_⟩
    · constructor
      · rintro (h | ⟨h5, h6⟩)
        · exact .inl h
        · exact .inr (((h3 k).1 h5).resolve_left h6)
      · rintro (h | h)
        · exact .inl h
        · exact .inr ⟨(h3 k).2 (.inr h), fun ha => h4 k ha h⟩
    · rcases hA' k hk with h | h
      · exact h ((h3 k).2 (.inr hb))
      · exact h4 k h hb
  | j :: r, n + 1, i, w, S, hn, ⟨A, B, h1, h2, h3, h4⟩ => by
    obtain ⟨C, g1, g2, g3⟩ := Own.focus (its := r) (n := n) (by simpa using hn) h2
    refine ⟨C, g1, fun k hk => (h3 k).2 (.inr (g2 k hk)), fun w' i' A' hi' hs hA' hm => ?_⟩
    refine ⟨A, fun k => A' k ∨ (B k ∧ ¬ C k), j.loc h1 hs (fun k hk => hm k ((h3 k).2 (.inl hk)) (fun hc => h4 k hk (g2 k hc))), g3 w' i' A' hi' hs (fun k hk => ?_) (fun k hb hc => hm k ((h3 k).2 (.inr hb)) hc), fun k => ?_, fun k hk hb => ?_⟩
    · rcases hA' k hk with h | h
      · exact .inl (fun hb => h ((h3 k).2 (.inr hb)))
      · exact .inr h
    · constructor
      · rintro (h | ⟨h5, h6⟩)
        · exact .inr (.inl h)
        · rcases (h3 k).1 h5 with h | h
          · exact .inl h
          · exact .inr (.inr ⟨h, h6⟩)
      · rintro (h | h | ⟨h5, h6⟩)
        · exact .inr ⟨(h3 k).2 (.inl h), fun hc => h4 k h (g2 k hc)⟩
        · exact .inl h
        · exact .inr ⟨(h3 k).2 (.inr h5), h6⟩
    · rcases hb with h | ⟨h5, h6⟩
      · rcases hA' k h with h' | h'
        · exact h' ((h3 k).2 (.inl hk))
        · exact h4 k hk (g2 k h')
      · exact h4 k hk h5
/-- Two as one. -/
theorem Own.one : ∀ {its : List Item} {n : Nat} {j1 j2 i : Item} {w : World} {S : Nat → Prop}, its[n]? = some j1 → Own (j2 :: its) w S → (∀ A1 A2 : Nat → Prop, j1.p w A1 → j2.p w A2 → (∀ k, A1 k → ¬ A2 k) → i.p w (fun k => A1 k ∨ A2 k)) → Own (its.set n i) w S := by
  intro its n j1 j2 i w S hn ⟨A2, C, h1, h2, h3, h4⟩ hi
  obtain ⟨A1, g1, g2, g3⟩ := h2.focus hn
  have hi' := hi A1 A2 g1 h1 (fun k hk h' => h4 k h' (g2 k hk))
  have hO := g3 w i _ hi' (Nat.le_refl _) (fun k hk => hk.elim .inr (fun h => .inl (fun hc => h4 k h hc))) (fun _ _ _ => rfl)
  refine (show (fun k => (A1 k ∨ A2 k) ∨ (C k ∧ ¬ A1 k)) = S from funext fun k => propext ?_) ▸ hO
  rw [h3 k]
  constructor
  · rintro ((h | h) | h)
    · exact .inr (g2 k h)
    · exact .inl h
    · exact .inr h.1
  · rintro (h | h)
    · exact .inl (.inr h)
    · by_cases ha : A1 k
      · exact .inl (.inl ha)
      · exact .inr ⟨h, ha⟩
/-- Item n taken out. -/
theorem Own.out : ∀ {its : List Item} {n : Nat} {i : Item} {w : World} {S : Nat → Prop}, its[n]? = some i → Own its w S → ∃ A B, i.p w A ∧ Own (its.eraseIdx n) w B ∧ (∀ k, S k ↔ A k ∨ B k) ∧ ∀ k, A k → ¬ B k
  | [], _, _, _, _, hn, _ => by simp at hn
  | j :: r, 0, i, w, S, hn, ⟨A, B, h1, h2, h3, h4⟩ => by
    obtain rfl : j = i := by simpa using hn
    exact ⟨A, B, h1, h2, h3, h4⟩
  | j :: r, n + 1, i, w, S, hn, ⟨A, B, h1, h2, h3, h4⟩ => by
    obtain ⟨C, D, g1, g2, g3, g4⟩ := Own.out (its := r) (n := n) (by simpa using hn) h2
    refine ⟨C, fun k => A k ∨ D k, g1, ⟨A, D, h1, g2, fun k => Iff.rfl, fun k ha hd => h4 k ha ((g3 k).2 (.inr hd))⟩, fun k => ?_, fun k hc hd => ?_⟩
    · rw [h3 k, g3 k]
      constructor
      · rintro (h | h | h)
        · exact .inr (.inl h)
        · exact .inl h
        · exact .inr (.inr h)
      · rintro (h | h | h)
        · exact .inr (.inl h)
        · exact .inl h
        · exact .inr (.inr h)
    · rcases hd with h | h
      · exact h4 k h ((g3 k).2 (.inl hc))
      · exact g4 k hc h
/-- W is w but for the blocks S and new ones. -/
structure Aft (S : Nat → Prop) (w W : World) : Prop where
  os : W.os = w.os
  tape : W.tape = w.tape
  output : W.output = w.output
  size : w.heap.size ≤ W.heap.size
  block : ∀ k, k < w.heap.size → ¬ S k → W.heap[k]? = w.heap[k]?
theorem Aft.refl (S : Nat → Prop) (w : World) : Aft S w w := ⟨rfl, rfl, rfl, Nat.le_refl _, fun _ _ _ => rfl⟩
theorem Aft.trans {S S' : Nat → Prop} {w w' W : World} (h : Aft S w w') (h' : Aft S' w' W) (hS : ∀ k, S' k → k < w.heap.size → S k) : Aft S w W :=
  ⟨h'.os.trans h.os, h'.tape.trans h.tape, h'.output.trans h.output, Nat.le_trans h.size h'.size, fun k hlt hn => (h'.block k (Nat.lt_of_lt_of_le hlt h.size) (fun hs => hn (hS k hs hlt))).trans (h.block k hlt hn)⟩
theorem Aft.of_below {w w' : World} (S : Nat → Prop) (h : Below w.heap.size w w') : Aft S w w' := ⟨h.os, h.tape, h.output, h.size, fun k hk _ => h.block k hk⟩
theorem Aft.below {S : Nat → Prop} {w w' : World} {B : Nat} (h : Aft S w w') (hB : B ≤ w.heap.size) (hS : ∀ k, S k → B ≤ k) : Below B w w' := ⟨h.os, h.tape, h.output, h.size, fun k hk => h.block k (by omega) (fun hs => by have := hS k hs; omega)⟩
theorem Aft.all {w w' : World} {S : Nat → Prop} (h : Aft S w w') (hS : ∀ k, k < w.heap.size → ¬ S k) : Below w.heap.size w w' := ⟨h.os, h.tape, h.output, h.size, fun k hk => h.block k hk (hS k hk)⟩
/-- A fact that lasts: whatever happens to the blocks S and to new ones. -/
def Sta (S : Nat → Prop) (w : World) (p : World → Prop) : Prop := ∀ W : World, Aft S w W → p W
theorem Sta.now {S : Nat → Prop} {w : World} {p : World → Prop} (h : Sta S w p) : p w := h w (Aft.refl S w)
theorem Sta.step {S S' : Nat → Prop} {w w' : World} {p : World → Prop} (h : Sta S w p) (ha : Aft S w w') (hS : ∀ k, S' k → k < w.heap.size → S k) : Sta S' w' p :=
  fun W hW => h W (ha.trans hW hS)
theorem Sta.imp {S : Nat → Prop} {w : World} {p q : World → Prop} (h : Sta S w p) (hq : ∀ W, p W → q W) : Sta S w q := fun W h1 => hq W (h W h1)
/-- Where a call began: its world, and what of it the call may write. -/
structure Base where
  w : World
  S : Nat → Prop
abbrev base (w : World) : Base := ⟨w, fun _ => False⟩
/-- The world at some point of a call that began at B. -/
structure WS (B : Base) (w : World) (its : List Item) (ps : List (World → Prop)) : Prop where
  aft : Aft B.S B.w w
  own : ∃ S, Own its w S ∧ (∀ k, S k → B.S k ∨ B.w.heap.size ≤ k) ∧ ∀ p ∈ ps, Sta S w p
section
variable {B : Base} {w w' : World} {its its' : List Item} {ps ps' : List (World → Prop)}
theorem WS.start (w : World) : WS (base w) w [] [] := ⟨Aft.refl _ _, fun _ => False, fun k h => h, fun k h => h.elim, fun p hp => by cases hp⟩
theorem WS.startW {w : World} {S : Nat → Prop} (h : Own its w S) (hp : ∀ p ∈ ps, Sta S w p) : WS ⟨w, S⟩ w its ps := ⟨Aft.refl _ _, S, h, fun k h => .inl h, hp⟩
theorem WS.below {w0 : World} (h : WS (base w0) w its ps) : Below w0.heap.size w0 w := h.aft.all (fun _ _ hk => hk)
theorem WS.size (h : WS B w its ps) : B.w.heap.size ≤ w.heap.size := h.aft.size
/-- Nothing of what was there has been touched. -/
theorem WS.call (h : WS B w its ps) (hb : Below w.heap.size w w') : WS B w' its ps := by
  obtain ⟨h1, S, h2, h3, h4⟩ := h
  exact ⟨h1.trans (Aft.of_below (fun _ => False) hb) (fun k hk _ => hk.elim), S, h2.loc hb.size (fun k hk => hb.block k (h2.lt k hk)), h3, fun p hp => (h4 p hp).step (Aft.of_below S hb) (fun k hk _ => hk)⟩
theorem WS.fact (h : WS B w its ps) {p : World → Prop} (hp : p ∈ ps) : p w := by
  obtain ⟨_, S, _, _, h4⟩ := h
  exact (h4 p hp).now
theorem WS.at (h : WS B w its ps) (n : Nat) {p : World → Prop} (hn : ps[n]? = some p) : p w := h.fact (List.mem_of_getElem? hn)
theorem WS.sub (h : WS B w its ps) (hs : ∀ p ∈ ps', p ∈ ps) : WS B w its ps' := by
  obtain ⟨h1, S, h2, h3, h4⟩ := h
  exact ⟨h1, S, h2, h3, fun p hp => h4 p (hs p hp)⟩
theorem WS.imp (h : WS B w its ps) {p q : World → Prop} (hp : p ∈ ps) (hq : ∀ W, p W → q W) : WS B w its (q :: ps) := by
  obtain ⟨h1, S, h2, h3, h4⟩ := h
  refine ⟨h1, S, h2, h3, fun r hr => ?_⟩
  rcases List.mem_cons.1 hr with rfl | hr
  · exact (h4 p hp).imp hq
  · exact h4 r hr
/-- One more item, in new blocks. -/
theorem WS.new (h : WS B w its ps) (hb : Below w.heap.size w w') {i : Item} {A : Nat → Prop} (hi : i.p w' A) (hA : ∀ k, A k → w.heap.size ≤ k) : WS B w' (i :: its) ps := by
  have hc := h.call hb
  obtain ⟨h1, S, h2, h3, h4⟩ := h
  refine ⟨hc.aft, fun k => A k ∨ S k, ⟨A, S, hi, h2.loc hb.size (fun k hk => hb.block k (h2.lt k hk)), fun k => Iff.rfl, fun k ha hs => by have := hA k ha; have := h2.lt k hs; omega⟩, ?_, fun p hp => (h4 p hp).step (Aft.of_below S hb) (fun k hk hlt => ?_)⟩
  · rintro k (hk | hk)
    · exact .inr (Nat.le_trans h1.size (hA k hk))
    · exact h3 k hk
  · rcases hk with hk | hk
    · have := hA k hk; omega
    · exact hk
/-- Item n is written no more: a fact on it that lasts. -/
theorem WS.freeze (h : WS B w its ps) {n : Nat} {i : Item} (hn : its[n]? = some i) {p : World → Prop} (hp : ∀ W A, i.p W A → p W) : WS B w (its.eraseIdx n) (p :: ps) := by
  obtain ⟨h1, S, h2, h3, h4⟩ := h
  obtain ⟨A, B', g1, g2, g3, g4⟩ := h2.out hn
  refine ⟨h1, B', g2, fun k hk => h3 k ((g3 k).2 (.inr hk)), fun q hq => ?_⟩
  rcases List.mem_cons.1 hq with rfl | hq
  · exact fun W hm => hp W A (i.loc g1 hm.size (fun k hk => hm.block k (i.lt g1 hk) (g4 k hk)))
  · exact (h4 q hq).step (Aft.refl S w) (fun k hk _ => (g3 k).2 (.inr hk))
theorem WS.drop (h : WS B w its ps) {n : Nat} {i : Item} (hn : its[n]? = some i) : WS B w (its.eraseIdx n) ps := by
  have := h.freeze hn (p := fun _ => True) (fun _ _ _ => trivial)
  exact this.sub (fun p hp => List.mem_cons_of_mem _ hp)
/-- A fact on new blocks alone lasts. -/
theorem WS.fresh (h : WS B w its ps) (hb : Below w.heap.size w w') {p : World → Prop} (hp : ∀ W : World, W.os = w'.os → W.tape = w'.tape → W.output = w'.output → w'.heap.size ≤ W.heap.size → (∀ k, w.heap.size ≤ k → k < w'.heap.size → W.heap[k]? = w'.heap[k]?) → p W) : WS B w' its (p :: ps) := by
  have hc := h.call hb
  obtain ⟨h1, S, h2, h3, h4⟩ := h
  refine ⟨hc.aft, S, h2.loc hb.size (fun k hk => hb.block k (h2.lt k hk)), h3, fun q hq => ?_⟩
  rcases List.mem_cons.1 hq with rfl | hq
  · exact fun W hm => hp W hm.os hm.tape hm.output hm.size (fun k g1 g2 => hm.block k g2 (fun hs => by have := h2.lt k hs; omega))
  · exact (h4 q hq).step (Aft.of_below S hb) (fun k hk _ => hk)
end
end Go.Proofs.YtcgpibbbkdhpeaaW.SL

namespace Go.Proofs.YtcgpibbbkdhpeaaW.SL
open Go Go.RowKit Go.Proofs.YtcgpibbbkdhpeaaW.PrintWords
set_option linter.unusedSimpArgs false
set_option linter.unusedVariables false

/-! #### the operations of a region, in the text's order -/
/-- Which operations of a region that draws its order are taken first; which come last of all. -/
structure Dm where
  takes : Nat → Bool
  needs : Nat → Bool
abbrev plain : Dm := ⟨fun _ => false, fun _ => false⟩
def runG (P : Program) (ops : Array Oper) (Q : Exit → Act → World → Prop) (D : Dm) : Nat → List Oper → Act → World → Prop
  | _, [], a, w => Q .normal a w
  | k, o :: r, a, w =>
    if D.takes k = true then ∃ v, YieldsIf P ops (fun W => Below w.heap.size w W) o v a ∧ runG P ops Q D (k + 1) r (a.put o.dst v) w
    else if Region.wanted o (yielded ops a.tmps) = true then o.wp P a w (fun a' w' => (D.needs k = true → Below w.heap.size w w') ∧ runG P ops Q D (k + 1) r a' w') Q
    else runG P ops Q D (k + 1) r (a.put o.dst undef) w
theorem wpList_of_run {P : Program} {ops : Array Oper} {Q : Exit → Act → World → Prop} : ∀ (l : List Oper) (k : Nat) (a : Act) (w : World), runG P ops Q plain k l a w → wpList P ops Q l a w
  | [], _, _, _, h => h
  | o :: r, k, a, w, h => by
    unfold runG at h
    rw [if_neg (by simp)] at h
    unfold wpList
    split
    · rename_i hw
      rw [if_pos hw] at h
      exact .inl (Oper.wp_mono (fun a' w' h' => wpList_of_run r (k + 1) a' w' h'.2) h)
    · rename_i hw
      rw [if_neg hw] at h
      exact wpList_of_run r (k + 1) _ _ h

section
variable (P : Program) (N : Nat) (B : Base)
/-- From the slots L, the items its, the facts ps on: K. -/
structure Ej (K : Act → World → Prop) (L : Sl) (its : List Item) (ps : List (World → Prop)) : Prop where
  mk :: (out : ∀ a w, Fr N a L → WS B w its ps → K a w)
structure Jl (D : Dm) (k : Nat) (ops : Array Oper) (Q : Exit → Act → World → Prop) (rest : List Oper) (L : Sl) (its : List Item) (ps : List (World → Prop)) : Prop where
  mk :: (out : ∀ a w, Fr N a L → WS B w its ps → runG P ops Q D k rest a w)
structure Cj (c : Code) (Q : Exit → Act → World → Prop) (L : Sl) (its : List Item) (ps : List (World → Prop)) : Prop where
  mk :: (out : ∀ a w, Fr N a L → WS B w its ps → c.wp P Q a w)
/-- The operation yields v and touches nothing. -/
structure Yd (o : Oper) (v : Value) (L : Sl) (its : List Item) (ps : List (World → Prop)) : Prop where
  mk :: (out : ∀ a w, Fr N a L → WS B w its ps → (execOp a.eval o).run P w = .ok (.value v) w)
end

section
variable {P : Program} {N : Nat} {B : Base} {L L' : Sl} {its its' : List Item} {ps ps' : List (World → Prop)} {Q : Exit → Act → World → Prop} {D : Dm} {k : Nat} {ops : Array Oper} {rest : List Oper} {o : Oper} {c c1 c2 : Code} {d t T n : Nat} {v v2 : Value} {b : Bool}

instance {K : Act → World → Prop} : CoeFun (Ej N B K L its ps) (fun _ => ∀ a w, Fr N a L → WS B w its ps → K a w) := ⟨Ej.out⟩
instance : CoeFun (Jl P N B D k ops Q rest L its ps) (fun _ => ∀ a w, Fr N a L → WS B w its ps → runG P ops Q D k rest a w) := ⟨Jl.out⟩
instance : CoeFun (Cj P N B c Q L its ps) (fun _ => ∀ a w, Fr N a L → WS B w its ps → c.wp P Q a w) := ⟨Cj.out⟩
instance : CoeFun (Yd P N B o v L its ps) (fun _ => ∀ a w, Fr N a L → WS B w its ps → (execOp a.eval o).run P w = .ok (.value v) w) := ⟨Yd.out⟩
/-! #### code -/
theorem Cj.seq (hc : c = .seq c1 c2) (h : Cj P N B c1 (Exit.then (c2.wp P Q) Q) L its ps) : Cj P N B c Q L its ps := by
  subst hc
  refine ⟨?_⟩
  exact fun a w hf hw => wp_seq (h a w hf hw)
theorem Cj.region {id : Nat} (hc : c = .region id ops false) (h : Jl P N B plain 0 ops Q ops.toList L its ps) : Cj P N B c Q L its ps := by
  subst hc
  refine ⟨?_⟩
  exact fun a w hf hw => wp_region_list (wpList_of_run _ _ _ _ (h a w hf hw))
theorem Cj.cond {z : Operand} (hc : c = .cond z c1 c2) (hz : ev L z = some (.bool b)) (ht : b = true → Cj P N B c1 Q L its ps) (hf : b = false → Cj P N B c2 Q L its ps) : Cj P N B c Q L its ps := by
  subst hc
  refine ⟨?_⟩
  exact fun a w hF hw => wp_cond_split (hF.ev hz) (fun e => ht e a w hF hw) (fun e => hf e a w hF hw)
theorem Cj.condT {z : Operand} (hc : c = .cond z c1 c2) (hz : ev L z = some (.bool true)) (h : Cj P N B c1 Q L its ps) : Cj P N B c Q L its ps :=
  Cj.cond hc hz (fun _ => h) (fun e => by cases e)
theorem Cj.condF {z : Operand} (hc : c = .cond z c1 c2) (hz : ev L z = some (.bool false)) (h : Cj P N B c2 Q L its ps) : Cj P N B c Q L its ps :=
  Cj.cond hc hz (fun e => by cases e) (fun _ => h)
theorem Cj.block {id : Nat} (hc : c = .block id c1) (h : Cj P N B c1 (Exit.inBlock id Q) L its ps) : Cj P N B c Q L its ps := by
  subst hc
  refine ⟨?_⟩
  exact fun a w hf hw => wp_block (h a w hf hw)
theorem Cj.skip (hc : c = .skip) (h : Ej N B (Q .normal) L its ps) : Cj P N B c Q L its ps := by
  subst hc
  refine ⟨?_⟩
  exact fun a w hf hw => wp_skip (h a w hf hw)
theorem Cj.exit {id : Nat} (hc : c = .exit id) (h : Ej N B (Q (.exit id)) L its ps) : Cj P N B c Q L its ps := by
  subst hc
  refine ⟨?_⟩
  exact fun a w hf hw => wp_exit (h a w hf hw)
theorem Cj.ret (hc : c = .ret) (h : Ej N B (Q .ret) L its ps) : Cj P N B c Q L its ps := by
  subst hc
  refine ⟨?_⟩
  exact fun a w hf hw => wp_ret (h a w hf hw)
theorem Jl.nil (h : Ej N B (Q .normal) L its ps) : Jl P N B D k ops Q [] L its ps := .mk <| fun a w hf hw => h a w hf hw
/-- What follows is known to be this code. -/
theorem Ej.go {K : Act → World → Prop} (h : Cj P N B c2 Q L its ps) (hK : ∀ a w, c2.wp P Q a w → K a w) : Ej N B K L its ps := .mk <| fun a w hf hw => hK a w (h a w hf hw)
theorem Ej.sub {K : Act → World → Prop} (L' : Sl) (ps' : List (World → Prop)) (hL : Sub L' L) (hp : ∀ p ∈ ps', p ∈ ps) (h : Ej N B K L' its ps') : Ej N B K L its ps := .mk <| fun a w hf hw => h a w (hf.sub hL) (hw.sub hp)
/-- What lies in memory, told otherwise. -/
theorem Cj.ws {ι : Type} (I : ι → Prop) (If : ι → List Item) (Pf : ι → List (World → Prop)) (h1 : ∀ w, WS B w its ps → ∃ i, I i ∧ WS B w (If i) (Pf i)) (h : ∀ i, I i → Cj P N B c Q L (If i) (Pf i)) : Cj P N B c Q L its ps := by
  refine ⟨?_⟩
  intro a w hf hw
  obtain ⟨i, hi, hw'⟩ := h1 w hw
  exact h i hi a w hf hw'
theorem Jl.ws {ι : Type} (I : ι → Prop) (If : ι → List Item) (Pf : ι → List (World → Prop)) (h1 : ∀ w, WS B w its ps → ∃ i, I i ∧ WS B w (If i) (Pf i)) (h : ∀ i, I i → Jl P N B D k ops Q rest L (If i) (Pf i)) : Jl P N B D k ops Q rest L its ps := by
  refine ⟨?_⟩
  intro a w hf hw
  obtain ⟨i, hi, hw'⟩ := h1 w hw
  exact h i hi a w hf hw'
theorem Ej.ws {K : Act → World → Prop} {ι : Type} (I : ι → Prop) (If : ι → List Item) (Pf : ι → List (World → Prop)) (h1 : ∀ w, WS B w its ps → ∃ i, I i ∧ WS B w (If i) (Pf i)) (h : ∀ i, I i → Ej N B K L (If i) (Pf i)) : Ej N B K L its ps := by
  refine ⟨?_⟩
  intro a w hf hw
  obtain ⟨i, hi, hw'⟩ := h1 w hw
  exact h i hi a w hf hw'
/-- Some items (the youngest) are forgotten. -/
inductive DropTo : List Item → List Item → Prop
  | refl {r} : DropTo r r
  | tail {i r r'} : DropTo r r' → DropTo (i :: r) r'
theorem WS.dropTo {w : World} : ∀ {its its' : List Item}, DropTo its its' → WS B w its ps → WS B w its' ps
  | _, _, .refl, h => h
  | _, _, .tail d, h => WS.dropTo d (h.drop (n := 0) rfl)
theorem Ej.back {K : Act → World → Prop} (hK : ∀ a w, (Fr N a L' ∧ WS B w its' ps) → K a w) (hI : DropTo its its') (hL : Sub L' L) : Ej N B K L its ps := .mk <| fun a w hf hw => hK a w ⟨hf.sub hL, hw.dropTo hI⟩
theorem least {p : Nat → Prop} (h : ∃ n, p n) : ∃ n, p n ∧ ∀ m, p m → n ≤ m := by
  obtain ⟨n, hn⟩ := h
  induction n using Nat.strongRecOn with
  | _ n ih =>
    by_cases hex : ∃ m, m < n ∧ p m
    · obtain ⟨m, hlt, hm⟩ := hex
      exact ih m hlt hm
    · exact ⟨n, hn, fun m hm => Nat.le_of_not_lt fun hlt => hex ⟨m, hlt, hm⟩⟩
open Classical in
theorem Cj.loop {ι : Type} (I : ι → Prop) (Lf : ι → Sl) (If : ι → List Item) (Pf : ι → List (World → Prop)) (μ : ι → Nat) (hc : c = .loop c1) (i0 : ι) (h0 : I i0) (hL : Sub (Lf i0) L) (hI : its = If i0) (hp : ∀ p ∈ Pf i0, p ∈ ps)
    (h : ∀ i, I i → Cj P N B c1 (Exit.then (fun a w => ∃ j, (I j ∧ μ j < μ i) ∧ Fr N a (Lf j) ∧ WS B w (If j) (Pf j)) Q) (Lf i) (If i) (Pf i)) : Cj P N B c Q L its ps := by
  subst hc; subst hI
  refine ⟨?_⟩
  intro a w hf hw
  let J : Act → World → Nat → Prop := fun a w n => ∃ i, I i ∧ μ i = n ∧ Fr N a (Lf i) ∧ WS B w (If i) (Pf i)
  have hmin : ∀ a w, (∃ n, J a w n) → ∃ n, J a w n ∧ ∀ m, J a w m → n ≤ m := fun a w hn => least hn
  refine wp_loop (fun a w => ∃ n, J a w n) (fun a w => if h : ∃ n, J a w n then (hmin a w h).choose else 0) ⟨_, i0, h0, rfl, hf.sub hL, hw.sub hp⟩ (fun a w hJ => ?_)
  rw [dif_pos hJ]
  obtain ⟨i, hi, hμ, h1, h2⟩ := (hmin a w hJ).choose_spec.1
  refine Code.wp_mono (fun e a' w' q => ?_) (h i hi a w h1 h2)
  cases e with
  | normal =>
    obtain ⟨j, ⟨hj, hlt⟩, g1, g2⟩ := q
    have hJ' : ∃ n, J a' w' n := ⟨_, j, hj, rfl, g1, g2⟩
    refine ⟨hJ', ?_⟩
    rw [dif_pos hJ', ← hμ]
    exact Nat.lt_of_le_of_lt ((hmin a' w' hJ').choose_spec.2 _ ⟨j, hj, rfl, g1, g2⟩) hlt
  | exit _ => exact q
  | goto _ => exact q
  | ret => exact q
  | panic _ => exact q
  | outgrown => exact q
/-- The call's end: the one result in a slot. -/
theorem Ej.out1 {fn : Func} {R : Ending → World → Prop} {K : Act → World → Prop} (hK : ∀ a w, bodyPost P fn R .ret a w → K a w) (hr : fn.results = #[.tmp t]) (hv : lk L t = some v) (hR : ∀ w, WS B w its ps → R (.returned v) w) : Ej N B K L its ps := by
  refine ⟨?_⟩
  intro a w hf hw
  have := hf.at_ t v hv
  refine hK a w ⟨hf.defers, v, ?_, hR w hw⟩
  simp [results, hr, this]
/-- A call begins: the arguments in the first slots. -/
def slots0 : Nat → List Value → Sl
  | _, [] => []
  | n, v :: r => (n, v) :: slots0 (n + 1) r
theorem slots0_lk : ∀ (args : List Value) (n : Nat) (t : Nat) (v : Value), lk (slots0 n args) t = some v → ∃ j, t = n + j ∧ args[j]? = some v
  | [], _, _, _, h => by simp [slots0, lk] at h
  | u :: r, n, t, v, h => by
    unfold slots0 lk at h
    by_cases e : n = t
    · subst e
      rw [show Nat.beq n n = true by simp] at h
      exact ⟨0, rfl, by simpa using h⟩
    · rw [beq_no e] at h
      obtain ⟨j, h1, h2⟩ := slots0_lk r (n + 1) t v h
      exact ⟨j + 1, by omega, by simpa using h2⟩
theorem enter {f : FuncId} {fn : Func} {args : List Value} {w : World} {R : Ending → World → Prop} (hf : P.funcs[f]? = some fn) (hb : fn.body = some c) (hN : fn.ntmps = N)
    (h : Cj P N (base w) c (bodyPost P fn R) (slots0 0 args) [] []) : Calls P f args.toArray w R := by
  refine calls_of_wp hf hb (h _ _ ⟨?_, rfl, fun t v hv => ?_⟩ (WS.start w))
  · simp only [Array.size_append, Array.size_replicate, List.size_toArray]; omega
  · obtain ⟨j, h1, h2⟩ := slots0_lk args 0 t v hv
    have hj : j < args.length := by
      rcases Nat.lt_or_ge j args.length with h' | h'
      · exact h'
      · rw [List.getElem?_eq_none h'] at h2; cases h2
    rw [show t = j by omega, Array.getElem?_append_left (by simpa using hj)]
    simpa using h2
theorem enterS {f : FuncId} {fn : Func} {args : List Value} {w : World} {S : Nat → Prop} {R : Ending → World → Prop} (its : List Item) (ps : List (World → Prop)) (hO : Own its w S) (hp : ∀ p ∈ ps, Sta S w p) (hf : P.funcs[f]? = some fn) (hb : fn.body = some c) (hN : fn.ntmps = N)
    (h : Cj P N ⟨w, S⟩ c (bodyPost P fn R) (slots0 0 args) its ps) : Calls P f args.toArray w R := by
  refine calls_of_wp hf hb (h _ _ ⟨?_, rfl, fun t v hv => ?_⟩ (WS.startW hO hp))
  · simp only [Array.size_append, Array.size_replicate, List.size_toArray]; omega
  · obtain ⟨j, h1, h2⟩ := slots0_lk args 0 t v hv
    have hj : j < args.length := by
      rcases Nat.lt_or_ge j args.length with h' | h'
      · exact h'
      · rw [List.getElem?_eq_none h'] at h2; cases h2
    rw [show t = j by omega, Array.getElem?_append_left (by simpa using hj)]
    simpa using h2
theorem enterW {f : FuncId} {fn : Func} {args : List Value} {w : World} {R : Ending → World → Prop} (ps : List (World → Prop)) (hp : ∀ p ∈ ps, ∀ W, Below w.heap.size w W → p W) (hf : P.funcs[f]? = some fn) (hb : fn.body = some c) (hN : fn.ntmps = N)
    (h : Cj P N (base w) c (bodyPost P fn R) (slots0 0 args) [] ps) : Calls P f args.toArray w R :=
  enterS [] ps (fun k h => h) (fun p hp' W hm => hp p hp' W (hm.all (fun _ _ h => h))) hf hb hN h

/-! #### operations -/
theorem Jl.e {ι : Type} (val : ι → Value) (its' : ι → List Item) (ps' : ι → List (World → Prop)) (hw : wants ops L o = some true) (hd : o.dst = some d) (hN : Nat.blt d N = true)
    (h1 : ∀ a w, Fr N a L → WS B w its ps → ∃ i w', (execOp a.eval o).run P w = .ok (.value (val i)) w' ∧ (D.needs k = true → Below w.heap.size w w') ∧ WS B w' (its' i) (ps' i))
    (h : ∀ i, Jl P N B D (k + 1) ops Q rest ((d, val i) :: L) (its' i) (ps' i)) (hD : D.takes k = false := by rfl) : Jl P N B D k ops Q (o :: rest) L its ps := by
  refine ⟨?_⟩
  intro a w hf hW
  obtain ⟨i, w', hr, hb, hW'⟩ := h1 a w hf hW
  unfold runG
  rw [if_neg (by rw [hD]; simp), if_pos (hf.wants hw)]
  unfold Oper.wp
  rw [hr, Oper.upon_value, hd]
  exact ⟨hb, h i _ _ (hf.put hN _) hW'⟩
theorem Jl.un (its' : List Item) (hw : wants ops L o = some true) (hd : o.dst = none)
    (h1 : ∀ a w, Fr N a L → WS B w its ps → ∃ w', (execOp a.eval o).run P w = .ok .skip w' ∧ WS B w' its' ps)
    (h : Jl P N B D (k + 1) ops Q rest L its' ps) (hD : D.takes k = false := by rfl) (hE : D.needs k = false := by rfl) : Jl P N B D k ops Q (o :: rest) L its ps := by
  refine ⟨?_⟩
  intro a w hf hW
  obtain ⟨w', hr, hW'⟩ := h1 a w hf hW
  unfold runG
  rw [if_neg (by rw [hD]; simp), if_pos (hf.wants hw)]
  unfold Oper.wp
  rw [hr, Oper.upon_skip, hd]
  exact ⟨fun h' => (by rw [hE] at h'; cases h'), h _ _ (hf.put_none _) hW'⟩
/-- What yields and touches nothing. -/
theorem Jl.yd (hy : Yd P N B o v L its ps) (hw : wants ops L o = some true) (hd : o.dst = some d) (hN : Nat.blt d N = true) (h : Jl P N B D (k + 1) ops Q rest ((d, v) :: L) its ps) : Jl P N B D k ops Q (o :: rest) L its ps := by
  refine ⟨?_⟩
  intro a w hf hW
  unfold runG
  by_cases ht : D.takes k = true
  · rw [if_pos ht]
    refine ⟨v, .inl ⟨hf.wants hw, fun W hb => hy a W hf (hW.call hb)⟩, ?_⟩
    rw [hd]
    exact h _ _ (hf.put hN _) hW
  · rw [if_neg ht, if_pos (hf.wants hw)]
    unfold Oper.wp
    rw [hy a w hf hW, Oper.upon_value, hd]
    exact ⟨fun _ => Below.refl _ _, h _ _ (hf.put hN _) hW⟩
/-- Not carried out. -/
theorem Jl.off (hw : wants ops L o = some false) (hd : o.dst = some d) (hN : Nat.blt d N = true) (h : Jl P N B D (k + 1) ops Q rest ((d, undef) :: L) its ps) : Jl P N B D k ops Q (o :: rest) L its ps := by
  refine ⟨?_⟩
  intro a w hf hW
  unfold runG
  by_cases ht : D.takes k = true
  · rw [if_pos ht]
    refine ⟨undef, .inr ⟨hf.wants hw, rfl⟩, ?_⟩
    rw [hd]
    exact h _ _ (hf.put hN _) hW
  · rw [if_neg ht, if_neg (by rw [hf.wants hw]; simp), hd]
    exact h _ _ (hf.put hN _) hW
/-- A Bool in a slot: both cases. -/
theorem Jl.split (t : Nat) (hb : lk L t = some (.bool b)) (ht : b = true → Jl P N B D k ops Q rest ((t, .bool true) :: L) its ps) (hf : b = false → Jl P N B D k ops Q rest ((t, .bool false) :: L) its ps) : Jl P N B D k ops Q rest L its ps := by
  refine ⟨?_⟩
  intro a w hF hW
  cases hb' : b with
  | true => exact ht hb' a w ⟨hF.size, hF.defers, fun s u hs => by
      unfold lk at hs
      by_cases e : t = s
      · subst e
        rw [show Nat.beq t t = true by simp] at hs
        rw [hF.at_ t _ hb, hb']; simpa using hs
      · rw [beq_no e] at hs; exact hF.at_ s u hs⟩ hW
  | false => exact hf hb' a w ⟨hF.size, hF.defers, fun s u hs => by
      unfold lk at hs
      by_cases e : t = s
      · subst e
        rw [show Nat.beq t t = true by simp] at hs
        rw [hF.at_ t _ hb, hb']; simpa using hs
      · rw [beq_no e] at hs; exact hF.at_ s u hs⟩ hW
def gslot (ops : Array Oper) (o : Oper) : Option Nat := match o.guard with
  | none => none
  | some (j, _) => (ops[j]?).bind (·.dst)
/-- The guard of what comes next: both cases. -/
theorem Jl.splitG (hg : gslot ops o = some t) (hb : lk L t = some (.bool b)) (ht : b = true → Jl P N B D k ops Q (o :: rest) ((t, .bool true) :: L) its ps) (hf : b = false → Jl P N B D k ops Q (o :: rest) ((t, .bool false) :: L) its ps) : Jl P N B D k ops Q (o :: rest) L its ps := Jl.split t hb ht hf
/-- What stands in a slot, said otherwise. -/
theorem Jl.as (t : Nat) (v : Value) (hb : lk L t = some v2) (e : v2 = v) (h : Jl P N B D k ops Q rest ((t, v) :: L) its ps) : Jl P N B D k ops Q rest L its ps := by
  subst e
  refine ⟨?_⟩
  intro a w hF hW
  exact h a w ⟨hF.size, hF.defers, fun s x hs => by
      unfold lk at hs
      by_cases e : t = s
      · subst e
        rw [show Nat.beq t t = true by simp] at hs
        rw [hF.at_ t _ hb]; simpa using hs
      · rw [beq_no e] at hs; exact hF.at_ s x hs⟩ hW
def arOp : BinOp → Int → Int → Option Int
  | .add, p, q => some (p + q)
  | .sub, p, q => some (p - q)
  | .mul, p, q => some (p * q)
  | _, _, _ => none
def rlOp : BinOp → Int → Int → Option Prop
  | .eql, p, q => some (p = q)
  | .neq, p, q => some (p ≠ q)
  | .lss, p, q => some (p < q)
  | .leq, p, q => some (p ≤ q)
  | .gtr, p, q => some (p > q)
  | .geq, p, q => some (p ≥ q)
  | _, _, _ => none
def dcOp : BinOp → Int → Int → Option Bool
  | .eql, p, q => some (decide (p = q))
  | .neq, p, q => some (decide (p ≠ q))
  | .lss, p, q => some (decide (p < q))
  | .leq, p, q => some (decide (p ≤ q))
  | .gtr, p, q => some (decide (p > q))
  | .geq, p, q => some (decide (p ≥ q))
  | _, _, _ => none
def bbOp : BinOp → Bool → Bool → Option Bool
  | .eql, p, q => some (p == q)
  | .neq, p, q => some (p != q)
  | _, _, _ => none
namespace Y
variable {x y z : Operand}
theorem mv (hop : o.op = .move x) (hx : ev L x = some v) : Yd P N B o v L its ps := .mk <| fun a w hf _ => by
  unfold execOp; rw [hop]; simp [hf.ev hx]
theorem asg (hop : o.op = .assign x) (hx : ev L x = some v) : Yd P N B o v L its ps := .mk <| fun a w hf _ => by
  unfold execOp; rw [hop]; simp [hf.ev hx]
theorem pickT (hop : o.op = .pick x y z) (hx : ev L x = some (.bool true)) (hy : ev L y = some v) : Yd P N B o v L its ps := .mk <| fun a w hf _ => by
  unfold execOp; rw [hop]; simp [hf.ev hx, hf.ev hy, asBool]
theorem pickF (hop : o.op = .pick x y z) (hx : ev L x = some (.bool false)) (hz : ev L z = some v) : Yd P N B o v L its ps := .mk <| fun a w hf _ => by
  unfold execOp; rw [hop]; simp [hf.ev hx, hf.ev hz, asBool]
theorem ext {us : List Value} {i : Nat} (hop : o.op = .extract x i) (hx : ev L x = some (.tuple us.toArray)) (hv : us[i]? = some v) : Yd P N B o v L its ps := .mk <| fun a w hf _ => by
  unfold execOp; rw [hop]; simp [hf.ev hx, Instr.extract, hv]
/-- A binary operation on two numbers, or Bools, or texts: what it yields is told by its own run. -/
theorem bin {op : BinOp} {tx ty : TypeId} {p q : Value} (hop : o.op = .binOp op tx x y ty) (hx : ev L x = some p) (hy : ev L y = some q) (hr : ∀ w, (do eqGuard op tx x y p q; binOp op tx p q : Sem Value).run P w = .ok v w) : Yd P N B o v L its ps := .mk <| fun a w hf _ => by
  unfold execOp; rw [hop]; simp only [hf.ev hx, hf.ev hy]
  rw [Sem.run_bind, hr w]; rfl
theorem un {op : UnOp} {tx : TypeId} {p : Value} (hop : o.op = .unOp op tx x) (hx : ev L x = some p) (hr : ∀ w, (Op.unary op p).run P w = .ok v w) : Yd P N B o v L its ps := .mk <| fun a w hf _ => by
  unfold execOp; rw [hop]; simp only [hf.ev hx]
  rw [Sem.run_bind, hr w]; rfl
theorem cmp {op : BinOp} {tx ty : TypeId} {k : IntKind} {p q : Int} (hop : o.op = .binOp op tx x y ty) (hx : ev L x = some (.int k p)) (hy : ev L y = some (.int k q)) (hr : dcOp op p q = some b) : Yd P N B o (.bool b) L its ps := by
  refine bin hop hx hy (fun w => ?_)
  have e1 : (p == q) = decide (p = q) := by simp [BEq.beq]
  have e2 : (p != q) = decide (p ≠ q) := by simp [bne, e1]
  cases op <;> simp only [arOp, rlOp, dcOp, bbOp, Option.some.injEq, reduceCtorEq] at hr <;> subst hr <;> simp [eqGuard, binOp, Op.intCmp, e1, e2]
theorem cmpF {op : BinOp} {tx ty : TypeId} {k : IntKind} {p q : Int} {φ : Prop} (hop : o.op = .binOp op tx x y ty) (hx : ev L x = some (.int k p)) (hy : ev L y = some (.int k q)) (hr : rlOp op p q = some φ) (hn : ¬ φ) : Yd P N B o (.bool false) L its ps := by
  refine cmp (P := P) (N := N) (B := B) (its := its) (ps := ps) hop hx hy ?_
  cases op <;> simp only [arOp, rlOp, dcOp, bbOp, Option.some.injEq, reduceCtorEq] at hr ⊢ <;> subst hr <;> exact decide_eq_false hn
theorem cmpT {op : BinOp} {tx ty : TypeId} {k : IntKind} {p q : Int} {φ : Prop} (hop : o.op = .binOp op tx x y ty) (hx : ev L x = some (.int k p)) (hy : ev L y = some (.int k q)) (hr : rlOp op p q = some φ) (hn : φ) : Yd P N B o (.bool true) L its ps := by
  refine cmp (P := P) (N := N) (B := B) (its := its) (ps := ps) hop hx hy ?_
  cases op <;> simp only [arOp, rlOp, dcOp, bbOp, Option.some.injEq, reduceCtorEq] at hr ⊢ <;> subst hr <;> exact decide_eq_true hn
theorem cmpB {op : BinOp} {tx ty : TypeId} {p q : Bool} (ht : P.underlying tx = some .bool) (hop : o.op = .binOp op tx x y ty) (hx : ev L x = some (.bool p)) (hy : ev L y = some (.bool q)) (hr : bbOp op p q = some b) : Yd P N B o (.bool b) L its ps := by
  refine bin hop hx hy (fun w => ?_)
  have h1 := run_eql_bool (P := P) (w := w) tx p q ht
  have h2 := run_neq_bool (P := P) (w := w) tx p q ht
  cases op <;> simp only [arOp, rlOp, dcOp, bbOp, Option.some.injEq, reduceCtorEq] at hr <;> subst hr
  · rw [Sem.run_bind]; simp [eqGuard, h1]
  · rw [Sem.run_bind]; simp [eqGuard, h2]; cases p <;> cases q <;> rfl
theorem arith {op : BinOp} {tx ty : TypeId} {k : IntKind} {p q r : Int} (hop : o.op = .binOp op tx x y ty) (hx : ev L x = some (.int k p)) (hy : ev L y = some (.int k q)) (hr : arOp op p q = some r) : Yd P N B o (.int k (k.wrap r)) L its ps := by
  refine bin hop hx hy (fun w => ?_)
  cases op <;> simp only [arOp, rlOp, dcOp, bbOp, Option.some.injEq, reduceCtorEq] at hr <;> subst hr <;> simp [eqGuard, binOp, Op.intArith]
theorem neqB {tx ty : TypeId} {p : Bool} (hop : o.op = .binOp .neq tx x y ty) (hx : ev L x = some (.bool p)) (hy : ev L y = some (.bool p)) (ht : P.underlying tx = some .bool) : Yd P N B o (.bool false) L its ps :=
  cmpB ht hop hx hy (by simp [bbOp])
theorem arith64 {op : BinOp} {tx ty : TypeId} {p q r : Int} (hop : o.op = .binOp op tx x y ty) (hx : ev L x = some (.int .i64 p)) (hy : ev L y = some (.int .i64 q)) (hr : arOp op p q = some r) : Yd P N B o (.int .i64 (wrap64 r)) L its ps := by
  have := arith (P := P) (N := N) (B := B) (its := its) (ps := ps) hop hx hy hr
  rw [IntKind.wrap_i64] at this
  unfold wrap64
  exact this
/-- 64 bits, within bounds. -/
theorem arithN {op : BinOp} {tx ty : TypeId} {p q r : Int} (hop : o.op = .binOp op tx x y ty) (hx : ev L x = some (.int .i64 p)) (hy : ev L y = some (.int .i64 q)) (hr : arOp op p q = some r) (hb : -9223372036854775808 ≤ r ∧ r ≤ 9223372036854775807) : Yd P N B o (.int .i64 r) L its ps := by
  have := arith (P := P) (N := N) (B := B) (its := its) (ps := ps) hop hx hy hr
  rw [IntKind.wrap_i64] at this
  have e : (r + 9223372036854775808) % 18446744073709551616 - 9223372036854775808 = r := by omega
  rwa [e] at this
theorem not (hop : o.op = .unOp .not T x) (hx : ev L x = some (.bool b)) : Yd P N B o (.bool (!b)) L its ps := un hop hx (fun w => by simp [Op.unary])
theorem lenS {ts : Array TypeId} {A : Option Addr} {m c e : Nat} (ht : P.underlying T = some (.slice e)) (hop : o.op = .call { callee := .builtin .len, args := #[x], argTypes := ts }) (hts : ts[0]? = some T) (hx : ev L x = some (.slice A m c)) : Yd P N B o (.int .i64 m) L its ps := .mk <| fun a w hf _ => by
  unfold execOp; rw [hop]
  simp [resolve, invoke, builtin, Builtin.len_, hts, hf.ev hx, run_underlying ht, goInt]
end Y
end
end Go.Proofs.YtcgpibbbkdhpeaaW.SL

namespace Go.Proofs.YtcgpibbbkdhpeaaW.SL
open Go Go.RowKit Go.Proofs.YtcgpibbbkdhpeaaW.PrintWords
set_option linter.unusedSimpArgs false
set_option linter.unusedVariables false

def scT (P : Program) (T : TypeId) : Bool := match P.underlying T with
  | some (.struct _) => false
  | some (.array _ _) => false
  | some _ => decide ((P.info? T).map (·.size) = some 1)
  | none => false
def zeroT (P : Program) (T : TypeId) : Option (List Value) := ((P.info? T).bind (·.zero)).map (·.cells.toList)
def fldT (P : Program) (S : TypeId) (f : Nat) : Option Nat := match P.underlying S with
  | some (.struct fs) => (fs[f]?).bind fun fl => (P.info? fl.type).bind fun i => if i.size = 0 then none else some fl.offset
  | _ => none
def elT (P : Program) (T : TypeId) : Option (TypeId × Nat) := match P.underlying T with
  | some (.slice e) => (P.info? e).map fun i => (e, i.size)
  | _ => none
structure ScT (P : Program) (T : Nat) : Prop where mk :: (out : scT P T = true)
structure ZeroT (P : Program) (T : Nat) (zs : List Value) : Prop where mk :: (out : zeroT P T = some zs)
structure FldT (P : Program) (S f off : Nat) : Prop where mk :: (out : fldT P S f = some off)
structure ElT (P : Program) (T e m : Nat) : Prop where mk :: (out : elT P T = some (e, m))
structure Ent (P : Program) (f : Nat) : Prop where mk :: (out : ∀ args w, (callFunc f args).run P w = .ok (.enter f args) w)
/-- Item i of its is i' in its'. -/
inductive SetAt (i i' : Item) : List Item → List Item → Prop
  | z {r} : SetAt i i' (i :: r) (i' :: r)
  | s {j r r'} : SetAt i i' r r' → SetAt i i' (j :: r) (j :: r')
theorem SetAt.at {i i' : Item} : ∀ {its its' : List Item}, SetAt i i' its its' → ∃ n, its[n]? = some i ∧ its' = its.set n i'
  | _, _, .z => ⟨0, rfl, rfl⟩
  | _, _, .s h => by
    obtain ⟨n, h1, h2⟩ := SetAt.at h
    exact ⟨n + 1, by simpa using h1, by simp [h2]⟩
/-- Item i taken out of its. -/
inductive OutAt (i : Item) : List Item → List Item → Prop
  | z {r} : OutAt i (i :: r) r
  | s {j r r'} : OutAt i r r' → OutAt i (j :: r) (j :: r')
theorem OutAt.at {i : Item} : ∀ {its its' : List Item}, OutAt i its its' → ∃ n, its[n]? = some i ∧ its' = its.eraseIdx n
  | _, _, .z => ⟨0, rfl, rfl⟩
  | _, _, .s h => by
    obtain ⟨n, h1, h2⟩ := OutAt.at h
    exact ⟨n + 1, by simpa using h1, by simp [h2]⟩
/-- Cell n of cs is v in cs'. -/
inductive PutAt (v : Value) : Nat → List Value → List Value → Prop
  | z {u r} : PutAt v 0 (u :: r) (v :: r)
  | s {n u r r'} : PutAt v n r r' → PutAt v (n + 1) (u :: r) (u :: r')
theorem PutAt.wr {v : Value} : ∀ {n : Nat} {cs cs' : List Value}, PutAt v n cs cs' → n + 1 ≤ cs.length ∧ cs' = cs.take n ++ ([v] ++ cs.drop (n + 1))
  | _, _, _, .z => ⟨by simp, by simp⟩
  | _, _, _, .s h => by
    obtain ⟨h1, h2⟩ := PutAt.wr h
    exact ⟨by simp; omega, by simp [h2]⟩
/-- Cells written from off on. -/
def wr (cs : List Value) (off : Nat) (us : List Value) : List Value := cs.take off ++ (us ++ cs.drop (off + us.length))

section
variable {P : Program} {w : World}
theorem run_zeroT {T : TypeId} {zs : List Value} (h : zeroT P T = some zs) : ∃ z, (zeroValue T).run P w = .ok z w ∧ z.cells.toList = zs := by
  unfold zeroT at h
  cases hi : P.info? T with
  | none => simp [hi] at h
  | some i =>
    cases hz : i.zero with
    | none => simp [hi, hz] at h
    | some z =>
      simp only [hi, Option.bind_some, hz, Option.map_some, Option.some.injEq] at h
      exact ⟨z, by simp [zeroValue, typeInfo, hi, hz], h⟩
theorem scT_run {T : TypeId} (h : scT P T = true) : (isAgg T).run P w = .ok false w ∧ (sizeOf T).run P w = .ok 1 w := by
  unfold scT at h
  cases hu : P.underlying T with
  | none => simp [hu] at h
  | some d =>
    have hs : (P.info? T).map (·.size) = some 1 ∧ ((match d with | .struct _ | .array _ _ => true | _ => false) = false) := by
      cases d <;> simp_all
    obtain ⟨i, hi, hi1⟩ := Option.map_eq_some_iff.1 hs.1
    refine ⟨?_, by simp [sizeOf, typeInfo, hi, hi1]⟩
    unfold isAgg
    rw [Sem.run_bind, run_underlying hu w]
    have := hs.2
    cases d <;> simp_all
theorem run_load_one {T : TypeId} {ad : Addr} {u : Value} (h : scT P T = true) (hc : w.cell? ad = some u) : (Instr.loadAt T (.pointer (some ad))).run P w = .ok u w := by
  obtain ⟨h1, h2⟩ := scT_run (w := w) h
  simp [Instr.loadAt, Instr.sureAddr, loadVar, h1, load, Sem.run, hc]
theorem run_fieldAt {S f off : Nat} {ad : Addr} (h : fldT P S f = some off) : (Instr.fieldAt S (.pointer (some ad)) f).run P w = .ok (.pointer (some (ad.add off))) w := by
  unfold fldT at h
  cases hu : P.underlying S with
  | none => simp [hu] at h
  | some d =>
    cases d <;> simp only [hu, reduceCtorEq] at h
    rename_i fs
    obtain ⟨fl, hf, h⟩ := Option.bind_eq_some_iff.1 h
    obtain ⟨i, hi, h⟩ := Option.bind_eq_some_iff.1 h
    have h0 : i.size ≠ 0 := fun e => by simp [e] at h
    rw [if_neg h0] at h
    obtain rfl := Option.some.inj h
    simp [Instr.fieldAt, run_underlying hu, hf, Instr.sureAddr, fieldPlace, sizeOf, typeInfo, hi, h0]
theorem run_indexAt {T e size len c : Nat} {ad : Addr} {k : IntKind} {i : Int} (h : elT P T = some (e, size)) (h0 : 0 ≤ i) (h1 : i < (len : Int)) : (Instr.indexAt T (.slice (some ad) len c) (.int k i)).run P w = .ok (.pointer (some (ad.add (i.toNat * size)))) w := by
  unfold elT at h
  cases hu : P.underlying T with
  | none => simp [hu] at h
  | some d =>
    cases d <;> simp [hu] at h
    rename_i e'
    obtain ⟨j, hj, rfl, rfl⟩ := h
    simp [Instr.indexAt, run_underlying hu, asIntOf, h0, h1, sizeOf, typeInfo, hj]
end

section
variable {P : Program} {N : Nat} {B : Base} {L L' : Sl} {its its' : List Item} {ps ps' : List (World → Prop)} {Q : Exit → Act → World → Prop} {D : Dm} {k : Nat} {ops : Array Oper} {rest : List Oper} {o : Oper} {d T n m : Nat} {v v2 : Value} {b : Bool} {x y z : Operand} {cs zs us : List Value} {g off T' : Nat} {ad : Addr}
namespace Y
theorem fld {S f : Nat} (hop : o.op = .fieldAddr S x f) (hx : ev L x = some (.pointer (some ad))) (hT : FldT P S f off) : Yd P N B o (.pointer (some (ad.add off))) L its ps := .mk <| fun a w hf hW => by
  unfold execOp; rw [hop]; simp [hf.ev hx, run_fieldAt hT.out]
theorem idx {e size len c : Nat} {k : IntKind} {i : Int} (hop : o.op = .indexAddr T x y) (hx : ev L x = some (.slice (some ad) len c)) (hy : ev L y = some (.int k i)) (hT : ElT P T e size) (h0 : 0 ≤ i) (h1 : i < (len : Int)) : Yd P N B o (.pointer (some (ad.add (i.toNat * size)))) L its ps := .mk <| fun a w hf hW => by
  unfold execOp; rw [hop]; simp [hf.ev hx, hf.ev hy, run_indexAt hT.out h0 h1]
end Y
theorem WS.alloc {w : World} (h : WS B w its ps) (T : Nat) (cs : Array Value) : WS B (w.alloc (.cells cs T)) (.box w.heap.size T cs.toList :: its) ps :=
  h.new (below_alloc (Below.refl _ _) _) (A := fun k => k = w.heap.size) ⟨by simpa using heap_alloc_new w (.cells cs T), fun k => Iff.rfl⟩ (fun k hk => by rw [hk]; exact Nat.le_refl _)
theorem Jl.alloc (hw : wants ops L o = some true) (hop : o.op = .alloc T) (hd : o.dst = some d) (hN : Nat.blt d N = true) (hz : ZeroT P T zs)
    (h : ∀ g, Jl P N B D (k + 1) ops Q rest ((d, .pointer (some ⟨g, 0, none⟩)) :: L) (Item.box g T zs :: its) ps) (hD : D.takes k = false := by rfl) : Jl P N B D k ops Q (o :: rest) L its ps :=
  Jl.e (fun g : Nat => .pointer (some ⟨g, 0, none⟩)) (fun g => Item.box g T zs :: its) (fun _ => ps) hw hd hN (fun a w hf hW => by
    obtain ⟨z, h1, h2⟩ := run_zeroT (w := w) hz.out
    refine ⟨w.heap.size, w.alloc (.cells z.cells T), ?_, fun _ => below_alloc (Below.refl _ _) _, ?_⟩
    · unfold execOp; rw [hop]; simp [Instr.alloc, h1, newVar, newRow]
    · have := hW.alloc T z.cells
      rwa [h2] at this) h hD
theorem Jl.box (hw : wants ops L o = some true) (hop : o.op = .box T x) (hd : o.dst = some d) (hN : Nat.blt d N = true) (hx : ev L x = some v) (hz : v.cells.toList = zs)
    (h : ∀ g, Jl P N B D (k + 1) ops Q rest ((d, .pointer (some ⟨g, 0, none⟩)) :: L) (Item.box g T zs :: its) ps) (hD : D.takes k = false := by rfl) : Jl P N B D k ops Q (o :: rest) L its ps :=
  Jl.e (fun g : Nat => .pointer (some ⟨g, 0, none⟩)) (fun g => Item.box g T zs :: its) (fun _ => ps) hw hd hN (fun a w hf hW => by
    refine ⟨w.heap.size, w.alloc (.cells v.cells T), ?_, fun _ => below_alloc (Below.refl _ _) _, ?_⟩
    · unfold execOp; rw [hop]; simp [Instr.box, newVar, newRow, hf.ev hx]
    · have := hW.alloc T v.cells
      rwa [hz] at this) h hD
/-- A call by its contract. -/
theorem Jl.call {ι : Type} (I : ι → Prop) (val : ι → Value) (its' : ι → List Item) (ps' : ι → List (World → Prop)) {f : FuncId} {args : Array Operand} {ts : Array TypeId} {fi ca : Array Value} {vals : List Value} (hw : wants ops L o = some true) (hop : o.op = .call { callee := .value x, args := args, argTypes := ts }) (hd : o.dst = some d) (hN : Nat.blt d N = true)
    (hx : ev L x = some (.func (.func f) fi ca)) (he : Ent P f) (hargs : evs L args.toList = some vals)
    (hc : ∀ w, WS B w its ps → Calls P f (fi ++ vals.toArray ++ ca) w fun e w' => ∃ i, e = .returned (val i) ∧ I i ∧ WS B w' (its' i) (ps' i) ∧ (D.needs k = true → Below w.heap.size w w'))
    (h : ∀ i, I i → Jl P N B D (k + 1) ops Q rest ((d, val i) :: L) (its' i) (ps' i)) (hD : D.takes k = false := by rfl) : Jl P N B D k ops Q (o :: rest) L its ps := by
  refine ⟨?_⟩
  intro a w hf hW
  unfold runG
  rw [if_neg (by rw [hD]; simp), if_pos (hf.wants hw)]
  have hl := hf.evs hargs
  have ha : args.map a.eval = vals.toArray := by
    apply Array.toList_inj.1
    rw [Array.toList_map]; exact hl
  have hrun : (execOp a.eval o).run P w = .ok (.enter f (fi ++ vals.toArray ++ ca)) w := by
    unfold execOp; rw [hop]
    simp [resolve, hf.ev hx, Deferred.ofValue, invoke, ha, he.out]
  unfold Oper.wp
  rw [hrun, Oper.upon_enter]
  refine (hc w hW).mono ?_
  rintro e w' ⟨i, rfl, hi, hW', hb⟩
  refine ⟨hb, ?_⟩
  rw [hd]
  exact h i hi _ _ (hf.put hN _) hW'
/-- A call of a function by its name, that only makes; one answer. -/
theorem Jl.call1 {f : FuncId} {args : Array Operand} {ts : Array TypeId} {vals : List Value} (hw : wants ops L o = some true) (hop : o.op = .call { callee := .value (.func f), args := args, argTypes := ts }) (hd : o.dst = some d) (hN : Nat.blt d N = true)
    (he : Ent P f) (hargs : evs L args.toList = some vals)
    (hc : ∀ w, WS B w its ps → Calls P f vals.toArray w fun e w' => e = .returned v ∧ Below w.heap.size w w')
    (h : Jl P N B D (k + 1) ops Q rest ((d, v) :: L) its ps) (hD : D.takes k = false := by rfl) : Jl P N B D k ops Q (o :: rest) L its ps :=
  Jl.call (ι := Unit) (fun _ => True) (fun _ => v) (fun _ => its) (fun _ => ps) hw hop hd hN rfl he hargs (fun w hW => by
    simp only [Array.empty_append, Array.append_empty]
    exact (hc w hW).mono (fun e w' hh => ⟨(), hh.1, trivial, hW.call hh.2, fun _ => hh.2⟩)) (fun _ _ => h) hD
end
end Go.Proofs.YtcgpibbbkdhpeaaW.SL

namespace Go.Proofs.YtcgpibbbkdhpeaaW.SL
open Go Go.RowKit Go.Proofs.YtcgpibbbkdhpeaaW.PrintWords
set_option linter.unusedSimpArgs false
set_option linter.unusedVariables false


section
variable {α β : Type} {dk : Kd α} {di : Kd β} {e ei b g m cap : Nat} {B : Base} {w w' : World} {its its' : List Item} {ps ps' : List (World → Prop)} {xs : List α} {ys ys' : List β} {v u : Value} {i : Int} {c : List Value} {x' : α}
/-- The element back in its row: it is x' now. -/
theorem WS.back {n : Nat} (h : WS B w (.row di ei b u ys' :: its) ps) (hn : its[n]? = some (.lent dk e b v xs i c u)) (hE : di.E = [])
    (hM : ∀ (w : World) ok, di.R ei w b ok u ys' → dk.M w b ok x' c) : WS B w (its.set n (.rowS dk e b v (xs.set i.toNat x'))) ps := by
  obtain ⟨q1, S, q2, q3, q4⟩ := h
  refine ⟨q1, S, q2.one hn (fun A1 A2 h1 h2 h3 => ?_), q3, q4⟩
  obtain ⟨ok, oki, g1, g2, g3, g4⟩ := h1
  obtain ⟨r1, r2⟩ := h2
  obtain ⟨_, f, hR⟩ := g1
  have hH : Kd.H dk e w b (fun k => (ok k ∧ ¬ oki k) ∨ some k = u.ownBlock) v xs i (fun k => some k = u.ownBlock) c :=
    ⟨fun k hk => .inr hk, f, Kd.R_mono hR (fun k hk => ⟨.inl hk, fun he => hk.2 (g2 k he.symm)⟩)⟩
  have hS := Kd.S_bound (Kd.H_back hH (hM w _ (Kd.R_tight hE r1)) (fun k hk => hk))
  refine ⟨Kd.S_mono hS (fun k hk => ?_), fun k hk => ?_⟩
  · rcases hk.1 with h | h
    · exact .inl ((g3 k).2 ⟨h, hk.2.2.1⟩)
    · exact .inr (r1.1 k h.symm)
  · rcases hk with h | h
    · exact ((g3 k).1 h).2
    · exact r2 k h
end
section
variable {P : Program} {N : Nat} {B : Base} {L L' : Sl} {its its' : List Item} {ps ps' : List (World → Prop)} {Q : Exit → Act → World → Prop} {D : Dm} {k : Nat} {ops : Array Oper} {rest : List Oper} {o : Oper} {d T n m off j g cap : Nat} {v v2 u rv : Value} {x y z : Operand} {α β : Type} {dk : Kd α} {e b : Nat} {xs : List α} {i : Int} {c c' : List Value}
namespace Y
end Y
end
end Go.Proofs.YtcgpibbbkdhpeaaW.SL

namespace Go.Proofs.YtcgpibbbkdhpeaaW.SL
open Go Go.RowKit Go.Proofs.YtcgpibbbkdhpeaaW.PrintWords Go.Proofs.YtcgpibbbkdhpeaaW.PrintLast
set_option linter.unusedSimpArgs false
set_option linter.unusedVariables false

universe u
section
variable {P : Program} {ops : Array Oper} {Q : Exit → Act → World → Prop} {md : Region.Mode} {ds : List Nat}
/-- Whatever order is picked from here on, and nothing that was there is written, but by ds. -/
def wpAnyB (P : Program) (md : Region.Mode) (ops : Array Oper) (Q : Exit → Act → World → Prop) (ds : List Nat) : Nat → Array Bool → Act → World → Prop
  | 0, listed, a, w => Region.ready md ops listed = [] ∧ Q .normal a w
  | fuel + 1, listed, a, w =>
    (Region.ready md ops listed = [] → Q .normal a w) ∧
    ∀ i ∈ Region.ready md ops listed, wpOp P ops Q i (fun a' w' => (i ∉ ds → Below w.heap.size w w') ∧ wpAnyB P md ops Q ds fuel (listed.setIfInBounds i true) a' w') a w
theorem wpAny_of_B : ∀ (fuel : Nat) (listed : Array Bool) (a : Act) (w : World), wpAnyB P md ops Q ds fuel listed a w → wpAny P md ops Q fuel listed a w
  | 0, _, _, _, h => h
  | fuel + 1, _, _, _, h => ⟨h.1, fun i hi => wpOp_mono (fun a' w' h' => wpAny_of_B fuel _ a' w' h'.2) (h.2 i hi)⟩
theorem yieldsIf_mono {S S' : World → Prop} {o : Oper} {v : Value} {a : Act} (h : YieldsIf P ops S o v a) (hs : ∀ w, S' w → S w) : YieldsIf P ops S' o v a :=
  h.imp (fun ⟨h1, h2⟩ => ⟨h1, fun w hw => h2 w (hs w hw)⟩) id
theorem wpAnyB_first {i : Nat} {oi : Oper} {v : Value} (hi : ops[i]? = some oi) (hsel : ∀ (j : Nat) (o : Oper) cs b, ops[j]? = some o → o.op ≠ .select cs b)
    (hQ : ∀ c a w, Q (.panic c) (a.put oi.dst v) w → Q (.panic c) a w) (n : Nat) :
    ∀ (fuel : Nat) (listed : Array Bool) (a : Act) (w : World),
      (∀ j oj, ops[j]? = some oj → j ≠ i → listed.getD j true = false → (∀ e ∈ oj.after, Region.binds md e = true → e.on ≠ i) → oi.apart ops oj = true) →
      ListedClosed md ops listed → (∀ d ∈ ds, listed.getD d true = false → Region.reachB md ops i n d = true) →
      i ∈ Region.ready md ops listed → YieldsIf P ops (fun W => Below w.heap.size w W) oi v a →
      wpAnyB P md ops Q ds fuel (listed.setIfInBounds i true) (a.put oi.dst v) w → wpAnyB P md ops Q ds (fuel + 1) listed a w := by
  intro fuel
  induction fuel with
  | zero =>
    intro listed a w _ _ _ hr hy H
    refine ⟨fun h => (by rw [h] at hr; cases hr), fun j hj => ?_⟩
    by_cases hji : j = i
    · subst hji; exact hy.wpOp hi (Below.refl _ _) ⟨fun _ => Below.refl _ _, H⟩
    · have := ready_mono hj hji
      rw [H.1] at this
      cases this
  | succ fuel ih =>
    intro listed a w hfree hc hd hr hy H
    refine ⟨fun h => (by rw [h] at hr; cases hr), fun j hj => ?_⟩
    by_cases hji : j = i
    · subst hji; exact hy.wpOp hi (Below.refl _ _) ⟨fun _ => Below.refl _ _, H⟩
    · have h1 := H.2 j (ready_mono hj hji)
      obtain ⟨hjun, oj, hoj, hall⟩ := mem_ready.1 hj
      have hiun := (mem_ready.1 hr).1
      have hnot : ∀ e ∈ oj.after, Region.binds md e = true → e.on ≠ i := fun e he hb heq => by
        have h1 := hall e he hb
        rw [heq] at h1
        rcases Nat.lt_or_ge i listed.size with h' | h'
        · simp [h'] at hiun h1; rw [hiun] at h1; cases h1
        · simp [Array.getElem?_eq_none h'] at h1
      have hjd : j ∉ ds := fun hm => Region.reach_not_ready hc (hd j hm hjun) hiun hj
      have h2 := wpOp_putIf hoj (hfree j oj hoj hji hjun hnot) (fun cs b => hsel i oi cs b hi) (fun cs b => hsel j oj cs b hoj) hQ hy h1
      have hfree' : ∀ k ok, ops[k]? = some ok → k ≠ i → (listed.setIfInBounds j true).getD k true = false →
          (∀ e ∈ ok.after, Region.binds md e = true → e.on ≠ i) → oi.apart ops ok = true := fun k ok hk hki hun hno => by
        refine hfree k ok hk hki ?_ hno
        by_cases hjk : j = k
        · subst hjk; exact hjun
        · rw [getD_set_ne true hjk] at hun; exact hun
      have hd' : ∀ d ∈ ds, (listed.setIfInBounds j true).getD d true = false → Region.reachB md ops i n d = true := fun d hm hun => by
        refine hd d hm ?_
        by_cases hjk : j = d
        · subst hjk; exact hjun
        · rw [getD_set_ne true hjk] at hun; exact hun
      refine wpOp_mono (fun a' w' h3 => ⟨h3.2.1, ih (listed.setIfInBounds j true) a' w' hfree' (hc.set hj) hd' (ready_mono hr (Ne.symm hji)) (yieldsIf_mono h3.1 (fun W hW => (h3.2.1 hjd).trans (hW.mono (h3.2.1 hjd).size))) ?_⟩) h2
      rw [Array.setIfInBounds_comm _ _ hji]
      exact h3.2.2
theorem memH {α : Type u} {x : α} {l : List α} : x ∈ x :: l := .head _
theorem memT {α : Type u} {x y : α} {l : List α} (h : x ∈ l) : x ∈ y :: l := .tail _ h
end
end Go.Proofs.YtcgpibbbkdhpeaaW.SL

namespace Go.Proofs.YtcgpibbbkdhpeaaW.SL
open Go Go.RowKit Go.Proofs.YtcgpibbbkdhpeaaW.PrintWords
set_option linter.unusedSimpArgs false
set_option linter.unusedVariables false
section
variable {P : Program} {N : Nat} {B : Base} {L : Sl} {its : List Item} {ps : List (World → Prop)} {Q : Exit → Act → World → Prop} {D : Dm} {k : Nat} {ops : Array Oper} {rest : List Oper} {o : Oper} {c : Code}
theorem gateO (h : Jl P N B D k ops Q (o :: rest) L its ps) : Jl P N B D k ops Q (o :: rest) L its ps := h
theorem gateE (h : Jl P N B D k ops Q [] L its ps) : Jl P N B D k ops Q [] L its ps := h
theorem gateC (h : Cj P N B c Q L its ps) : Cj P N B c Q L its ps := h
end
end Go.Proofs.YtcgpibbbkdhpeaaW.SL

namespace Go.Proofs.YtcgpibbbkdhpeaaW.SL
open Go Go.RowKit Go.Proofs.YtcgpibbbkdhpeaaW.PrintWords
set_option linter.unusedSimpArgs false
set_option linter.unusedVariables false
section
variable {P : Program} {N : Nat} {B : Base} {L : Sl} {its : List Item} {ps : List (World → Prop)} {o : Oper} {T n m : Nat} {x : Operand} {ad ad' : Addr} {rows : List (List Value)} {us : List Value} {u : Value}
namespace Y
end Y
end
/-! #### items in another order, some left out -/
inductive Pick : List Item → List Item → Prop
  | nil {its} : Pick its []
  | cons {i : Item} {its r q} : OutAt i its r → Pick r q → Pick its (i :: q)
theorem Own.pick : ∀ {its its' : List Item} {w : World} {S : Nat → Prop}, Pick its its' → Own its w S → ∃ S', Own its' w S' ∧ ∀ k, S' k → S k
  | _, _, _, _, .nil, _ => ⟨fun _ => False, fun _ h => h, fun _ h => h.elim⟩
  | _, _, _, _, .cons ho hp, h => by
    obtain ⟨n, hn, rfl⟩ := ho.at
    obtain ⟨A, B, g1, g2, g3, g4⟩ := h.out hn
    obtain ⟨S', h1, h2⟩ := Own.pick hp g2
    exact ⟨fun k => A k ∨ S' k, ⟨A, S', g1, h1, fun _ => Iff.rfl, fun k ha hs => g4 k ha (h2 k hs)⟩, fun k hk => (g3 k).2 (hk.imp id (h2 k))⟩
theorem WS.pick {B : Base} {w : World} {its its' : List Item} {ps : List (World → Prop)} (hp : Pick its its') (h : WS B w its ps) : WS B w its' ps := by
  obtain ⟨h1, S, h2, h3, h4⟩ := h
  obtain ⟨S', g1, g2⟩ := Own.pick hp h2
  exact ⟨h1, S', g1, fun k hk => h3 k (g2 k hk), fun p hp => (h4 p hp).step (Aft.refl S w) (fun k hk _ => g2 k hk)⟩
section
variable {P : Program} {N : Nat} {B : Base} {L L' : Sl} {its its' : List Item} {ps ps' : List (World → Prop)} {Q : Exit → Act → World → Prop} {c c1 c2 : Code}
theorem Ej.cutP {K : Act → World → Prop} {ι : Type} (I : ι → Prop) (Lf : ι → Sl) (If : ι → List Item) (Pf : ι → List (World → Prop)) (hK : ∀ a w, (∃ i, I i ∧ Fr N a (Lf i) ∧ WS B w (If i) (Pf i)) → K a w) (i : ι) (hi : I i) (hL : Sub (Lf i) L) (hI : Pick its (If i)) (hp : ∀ p ∈ Pf i, p ∈ ps) : Ej N B K L its ps :=
  .mk <| fun a w hf hw => hK a w ⟨i, hi, hf.sub hL, (hw.pick hI).sub hp⟩
theorem Cj.pick (hp : Pick its its') (hs : ∀ p ∈ ps', p ∈ ps) (h : Cj P N B c Q L its' ps') : Cj P N B c Q L its ps := by
  refine ⟨?_⟩
  intro a w hf hw
  exact h a w hf ((hw.pick hp).sub hs)
/-- A loop; what it needs picked out of what there is. -/
theorem Cj.loopP {ι : Type} (I : ι → Prop) (Lf : ι → Sl) (If : ι → List Item) (Pf : ι → List (World → Prop)) (μ : ι → Nat) (hc : c = .loop c1) (i0 : ι) (h0 : I i0) (hL : Sub (Lf i0) L) (hI : Pick its (If i0)) (hp : ∀ p ∈ Pf i0, p ∈ ps)
    (h : ∀ i, I i → Cj P N B c1 (Exit.then (fun a w => ∃ j, (I j ∧ μ j < μ i) ∧ Fr N a (Lf j) ∧ WS B w (If j) (Pf j)) Q) (Lf i) (If i) (Pf i)) : Cj P N B c Q L its ps :=
  Cj.pick hI hp (Cj.loop I Lf If Pf μ hc i0 h0 hL rfl (fun _ h => h) h)
end
section
variable {P : Program} {N : Nat} {B : Base} {L : Sl} {its : List Item} {ps : List (World → Prop)} {o : Oper} {T n m : Nat} {x y : Operand} {ad ad' : Addr} {xs : List Int} {p q : Int}
namespace Y
/-- A number out of a row of numbers that is only read. -/
theorem loadI (hop : o.op = .load T x) (hx : ev L x = some (.pointer (some ad'))) (hT : ScT P T) (hp : (fun w => (Kd.int .i64).C w (some ad) n xs) ∈ ps) (i : Int) (h0 : 0 ≤ i) (h1 : i < (n : Int)) (had : ad' = ad.add (i.toNat * 1)) : Yd P N B o (.int .i64 (xs.getD i.toNat 0)) L its ps := .mk <| fun a w hf hW => by
  obtain ⟨ad2, c, e, hl, hr, hcell⟩ := ReadsRow.get_ (hW.fact hp) 0 i h0 h1
  injection e with e
  subst e
  have hc : c = [.int .i64 (xs.getD i.toNat 0)] := hr
  subst hc
  have h2 : w.cell? ad' = some (.int .i64 (xs.getD i.toNat 0)) := by rw [had]; exact hcell 0 _ rfl
  generalize Value.int .i64 (xs.getD i.toNat 0) = v at h2 ⊢
  unfold execOp; rw [hop]; simp [hf.ev hx, run_load_one hT.out h2]
theorem mx {ts : Array TypeId} (hop : o.op = .call { callee := .builtin .max, args := #[x, y], argTypes := ts }) (hx : ev L x = some (.int .i64 p)) (hy : ev L y = some (.int .i64 q)) : Yd P N B o (.int .i64 (if q > p then q else p)) L its ps := .mk <| fun a w hf _ => by
  unfold execOp; rw [hop]
  simp [resolve, invoke, builtin, Builtin.max_, Builtin.max2, hf.ev hx, hf.ev hy]
end Y
end
end Go.Proofs.YtcgpibbbkdhpeaaW.SL

namespace Go.Proofs.YtcgpibbbkdhpeaaW.SL
open Go Go.RowKit Go.Proofs.YtcgpibbbkdhpeaaW.PrintWords Go.Proofs.YtcgpibbbkdhpeaaW.PrintLast
set_option linter.unusedSimpArgs false
set_option linter.unusedVariables false
section
variable {P : Program} {ops : Array Oper} {Q : Exit → Act → World → Prop} {md : Region.Mode} {ds : List Nat}
theorem wpAnyB_firstP {i : Nat} {oi : Oper} {v : Value} (hi : ops[i]? = some oi) (hsel : ∀ (j : Nat) (o : Oper) cs b, ops[j]? = some o → o.op ≠ .select cs b)
    (hQ : ∀ c a w, Q (.panic c) (a.put oi.dst v) w → Q (.panic c) a w) :
    ∀ (fuel : Nat) (listed : Array Bool) (a : Act) (w : World),
      (∀ j oj, ops[j]? = some oj → j ≠ i → listed.getD j true = false → (∀ e ∈ oj.after, Region.binds md e = true → e.on ≠ i) → oi.apart ops oj = true) →
      ListedClosed md ops listed →
      i ∈ Region.ready md ops listed → YieldsIf P ops (fun _ => True) oi v a →
      wpAnyB P md ops Q ds fuel (listed.setIfInBounds i true) (a.put oi.dst v) w → wpAnyB P md ops Q ds (fuel + 1) listed a w := by
  intro fuel
  induction fuel with
  | zero =>
    intro listed a w _ _ hr hy H
    refine ⟨fun h => (by rw [h] at hr; cases hr), fun j hj => ?_⟩
    by_cases hji : j = i
    · subst hji; exact hy.wpOp hi trivial ⟨fun _ => Below.refl _ _, H⟩
    · have := ready_mono hj hji
      rw [H.1] at this
      cases this
  | succ fuel ih =>
    intro listed a w hfree hc hr hy H
    refine ⟨fun h => (by rw [h] at hr; cases hr), fun j hj => ?_⟩
    by_cases hji : j = i
    · subst hji; exact hy.wpOp hi trivial ⟨fun _ => Below.refl _ _, H⟩
    · have h1 := H.2 j (ready_mono hj hji)
      obtain ⟨hjun, oj, hoj, hall⟩ := mem_ready.1 hj
      have hiun := (mem_ready.1 hr).1
      have hnot : ∀ e ∈ oj.after, Region.binds md e = true → e.on ≠ i := fun e he hb heq => by
        have h1 := hall e he hb
        rw [heq] at h1
        rcases Nat.lt_or_ge i listed.size with h' | h'
        · simp [h'] at hiun h1; rw [hiun] at h1; cases h1
        · simp [Array.getElem?_eq_none h'] at h1
      have h2 := wpOp_putIf hoj (hfree j oj hoj hji hjun hnot) (fun cs b => hsel i oi cs b hi) (fun cs b => hsel j oj cs b hoj) hQ hy h1
      have hfree' : ∀ k ok, ops[k]? = some ok → k ≠ i → (listed.setIfInBounds j true).getD k true = false →
          (∀ e ∈ ok.after, Region.binds md e = true → e.on ≠ i) → oi.apart ops ok = true := fun k ok hk hki hun hno => by
        refine hfree k ok hk hki ?_ hno
        by_cases hjk : j = k
        · subst hjk; exact hjun
        · rw [getD_set_ne true hjk] at hun; exact hun
      refine wpOp_mono (fun a' w' h3 => ⟨h3.2.1, ih (listed.setIfInBounds j true) a' w' hfree' (hc.set hj) (ready_mono hr (Ne.symm hji)) h3.1 ?_⟩) h2
      rw [Array.setIfInBounds_comm _ _ hji]
      exact h3.2.2
/-- Behind the operation: K; elsewhere Q. -/
def Qn (K : Act → World → Prop) (Q : Exit → Act → World → Prop) : Exit → Act → World → Prop
  | .normal, a, w => K a w
  | e, a, w => Q e a w
theorem wp_Qn {o : Oper} {a : Act} {w : World} {K K' : Act → World → Prop} (h : o.wp P a w K (Qn K' Q)) : o.wp P a w K Q := by
  unfold Oper.wp at h ⊢
  cases hr : (execOp a.eval o).run P w with
  | ok n w' =>
    rw [hr] at h
    cases n with
    | enter f args =>
      rw [Oper.upon_enter] at h ⊢
      refine Calls.mono h (fun e w'' he => ?_)
      cases e with
      | returned v => exact he
      | panicked c => exact he
      | outgrown => exact he
    | _ => exact h
  | halt hh w' =>
    rw [hr] at h
    cases hh <;> exact h
/-- One operation of a region, what follows by K. -/
theorem wpOp_one {D : Dm} {i : Nat} {o : Oper} {a : Act} {w : World} {K : Act → World → Prop} (ho : ops[i]? = some o) (ht : D.takes 0 = false) (hd : i ∈ ds ∨ D.needs 0 = true)
    (h : runG P ops (Qn K Q) D 0 [o] a w) : wpOp P ops Q i (fun a' w' => (i ∉ ds → Below w.heap.size w w') ∧ K a' w') a w := by
  unfold runG at h
  rw [if_neg (by rw [ht]; simp)] at h
  unfold wpOp
  rw [ho]
  dsimp only
  have hds : i ∉ ds → D.needs 0 = true := fun hn => hd.resolve_left hn
  by_cases hw : Region.wanted o (yielded ops a.tmps) = true
  · rw [if_pos hw] at h ⊢
    exact .inl (Oper.wp_mono (fun a' w' h' => ⟨fun hn => h'.1 (hds hn), h'.2⟩) (wp_Qn h))
  · rw [if_neg hw] at h ⊢
    exact ⟨fun _ => Below.refl _ _, h⟩
end
section
variable (P : Program) (N : Nat) (B : Base)
/-- The operations that are listed in l are done; n are left. -/
structure Jw (ds : List Nat) (n : Nat) (ops : Array Oper) (Q : Exit → Act → World → Prop) (l : List Bool) (L : Sl) (its : List Item) (ps : List (World → Prop)) : Prop where
  mk :: (out : ∀ a w, Fr N a L → WS B w its ps → wpAnyB P .any ops Q ds n l.toArray a w)
end
def takeOk (ops : Array Oper) (l : List Bool) (i : Nat) : Bool := takeT (rtab .any ops) [] l (l.set i true) i
def readyAre (ops : Array Oper) (l : List Bool) (is : List Nat) : Bool := readyT (rtab .any ops).2 l == is
section
variable {P : Program} {N : Nat} {B : Base} {L L' : Sl} {its its' : List Item} {ps ps' : List (World → Prop)} {Q : Exit → Act → World → Prop} {ops : Array Oper} {c : Code} {ds : List Nat} {n i j d : Nat} {l : List Bool} {o : Oper} {v : Value}
theorem Cj.regionJ {id : Nat} (hc : c = .region id ops true) (ds : List Nat) (hm : P.follows .mixedOrders = true) (h : Jw P N B ds ops.size ops Q (List.replicate ops.size false) L its ps) : Cj P N B c Q L its ps := by
  subst hc
  refine ⟨?_⟩
  intro a w hf hw
  refine wp_region_any hm ?_
  have hb : Below w.heap.size w { w with drawn := w.drawn + 1 } := ⟨rfl, rfl, rfl, Nat.le_refl _, fun _ _ => rfl⟩
  have := h.out a _ hf (hw.call hb)
  rw [show (List.replicate ops.size false).toArray = Array.replicate ops.size false by simp] at this
  exact wpAny_of_B _ _ _ _ this
theorem Jw.done (hr : readyAre ops l [] = true) (h : Ej N B (Q .normal) L its ps) : Jw P N B ds n ops Q l L its ps := by
  refine ⟨fun a w hf hw => ?_⟩
  simp only [readyAre, beq_iff_eq] at hr
  have hr' : Region.ready .any ops l.toArray = [] := by rw [ready_eq]; simpa using hr
  cases n with
  | zero => exact ⟨hr', h a w hf hw⟩
  | succ n => exact ⟨fun _ => h a w hf hw, fun i hi => by rw [hr'] at hi; cases hi⟩
/-- What is pure is taken. -/
theorem Jw.take (i : Nat) (ho : ops[i]? = some o) (ht : takeOk ops l i = true) (hQ : ∀ c a d v w, Q (.panic c) (Act.put a d v) w → Q (.panic c) a w) (hy : ∀ w, Yd P N (base w) o v L [] []) (hw : wants ops L o = some true) (hd : o.dst = some d) (hN : Nat.blt d N = true)
    (h : Jw P N B ds n ops Q (l.set i true) ((d, v) :: L) its ps) : Jw P N B ds (n + 1) ops Q l L its ps := by
  refine ⟨fun a w hf hW => ?_⟩
  have h3 := take_of (md := .any) (ops := ops) (l := l.toArray) (l' := l.toArray.setIfInBounds i true) rfl (by simpa [takeOk] using ht)
  simp only [takeB, Bool.and_eq_true, beq_iff_eq] at h3
  obtain ⟨⟨⟨⟨⟨g1, g2⟩, g3⟩, g4⟩, g5⟩, _⟩ := h3
  have g3' : i ∈ Region.ready .any ops l.toArray := by simpa using g3
  have := h.out (a.put o.dst v) w (by rw [hd]; exact hf.put hN _) hW
  refine wpAnyB_firstP ho (Region.noSelect_spec g1) (fun c a w => hQ c a _ _ w) n l.toArray a w (Region.free_spec ho g2) (Region.closedB_spec g4) g3' (.inl ⟨hf.wants hw, fun W _ => hy W a W hf (WS.start W)⟩) ?_
  simpa using this
/-- What reads memory is taken, if all that writes waits for it. -/
theorem Jw.takeR (i : Nat) (ho : ops[i]? = some o) (ht : takeT (rtab .any ops) ds l (l.set i true) i = true) (hQ : ∀ c a d v w, Q (.panic c) (Act.put a d v) w → Q (.panic c) a w) (hy : Yd P N B o v L its ps) (hw : wants ops L o = some true) (hd : o.dst = some d) (hN : Nat.blt d N = true)
    (h : Jw P N B ds n ops Q (l.set i true) ((d, v) :: L) its ps) : Jw P N B ds (n + 1) ops Q l L its ps := by
  refine ⟨fun a w hf hW => ?_⟩
  have h3 := take_of (md := .any) (ops := ops) (l := l.toArray) (l' := l.toArray.setIfInBounds i true) rfl (by simpa using ht)
  simp only [takeB, Bool.and_eq_true, beq_iff_eq] at h3
  obtain ⟨⟨⟨⟨⟨g1, g2⟩, g3⟩, g4⟩, g5⟩, _⟩ := h3
  have g3' : i ∈ Region.ready .any ops l.toArray := by simpa using g3
  have := h.out (a.put o.dst v) w (by rw [hd]; exact hf.put hN _) hW
  refine wpAnyB_first ho (Region.noSelect_spec g1) (fun c a w => hQ c a _ _ w) ops.size n l.toArray a w (Region.free_spec ho g2) (Region.closedB_spec g4)
    (fun d hm hun => by have := List.all_eq_true.1 g5 d hm; rw [hun] at this; simpa using this) g3' (.inl ⟨hf.wants hw, fun W hb => hy a W hf (hW.call hb)⟩) ?_
  simpa using this
/-- What alone is ready. -/
theorem Jw.step (D : Dm) (i : Nat) (ho : ops[i]? = some o) (hr : readyAre ops l [i] = true) (hd : (ds.contains i || D.needs 0) = true) (ht : D.takes 0 = false)
    (h : Jl P N B D 0 ops (Qn (wpAnyB P .any ops Q ds n (l.set i true).toArray) Q) [o] L its ps) : Jw P N B ds (n + 1) ops Q l L its ps := by
  refine ⟨fun a w hf hW => ?_⟩
  simp only [readyAre, beq_iff_eq] at hr
  have hr' : Region.ready .any ops l.toArray = [i] := by rw [ready_eq]; simpa using hr
  refine ⟨fun h0 => (by rw [hr'] at h0; cases h0), fun j hj => ?_⟩
  rw [hr'] at hj
  obtain rfl : j = i := by simpa using hj
  have := wpOp_one (ds := ds) ho ht (by simpa using hd) (h a w hf hW)
  simpa using this
end
end Go.Proofs.YtcgpibbbkdhpeaaW.SL

namespace Go.Proofs.YtcgpibbbkdhpeaaW.SL
open Go Go.RowKit Go.Proofs.YtcgpibbbkdhpeaaW.PrintWords
set_option linter.unusedSimpArgs false
set_option linter.unusedVariables false
theorem rowsC {α : Type} {dk : Kd α} {e : Nat} {ok : Nat → Prop} {w w' W : World} {A : Option Addr} {n c : Nat} {xs : List α} (hr : dk.R e w' w.heap.size ok (.slice A n c) xs) (hm : ∀ k, w.heap.size ≤ k → k < w'.heap.size → W.heap[k]? = w'.heap[k]?) : dk.C W A xs.length xs :=
  (Kd.R_reads' (Kd.R_move (Kd.R_bound hr) (fun k hk => hm k hk.2.1 hk.2.2.1))).2.2
section
variable {P : Program} {N : Nat} {B : Base} {L L' : Sl} {its its' : List Item} {ps ps' : List (World → Prop)} {Q : Exit → Act → World → Prop} {D : Dm} {k : Nat} {ops : Array Oper} {rest : List Oper} {o : Oper} {d e0 e1 e2 : Nat} {α β γ : Type} {da : Kd α} {db : Kd β} {dc : Kd γ}
/-- A call that makes one row. -/
theorem Jl.draw1 (V : Value → Value) (xs : List α) {f : FuncId} {args : Array Operand} {ts : Array TypeId} {vals : List Value} (hw : wants ops L o = some true) (hop : o.op = .call { callee := .value (.func f), args := args, argTypes := ts }) (hd : o.dst = some d) (hN : Nat.blt d N = true)
    (he : Ent P f) (hargs : evs L args.toList = some vals)
    (hc : ∀ w, WS B w its ps → Calls P f vals.toArray w fun e' w' => ∃ v0, e' = .returned (V v0) ∧ da.R e0 w' w.heap.size (fun _ => True) v0 xs ∧ Below w.heap.size w w')
    (h : ∀ A0 c0, xs.length ≤ c0 → Jl P N B D (k + 1) ops Q rest ((d, V (.slice A0 xs.length c0)) :: L) its ((fun W => da.C W A0 xs.length xs) :: ps)) (hD : D.takes k = false := by rfl) : Jl P N B D k ops Q (o :: rest) L its ps :=
  Jl.call (ι := Option Addr × Nat) (fun i => xs.length ≤ i.2) (fun i => V (.slice i.1 xs.length i.2)) (fun _ => its) (fun i => (fun W => da.C W i.1 xs.length xs) :: ps) hw hop hd hN rfl he hargs (fun w hW => by
    simp only [Array.empty_append, Array.append_empty]
    refine (hc w hW).mono ?_
    rintro e' w' ⟨v0, rfl, r0, hb⟩
    obtain ⟨A0, c0, rfl, l0, _⟩ := Kd.R_reads r0
    exact ⟨(A0, c0), rfl, l0, hW.fresh hb (fun W _ _ _ _ hm => rowsC r0 hm), fun _ => hb⟩) (fun i hi => h i.1 i.2 hi) hD
/-- A call that makes three rows. -/
theorem Jl.draw3 (V : Value → Value → Value → Value) (xs : List α) (ys : List β) (zs : List γ) {f : FuncId} {args : Array Operand} {ts : Array TypeId} {vals : List Value} (hw : wants ops L o = some true) (hop : o.op = .call { callee := .value (.func f), args := args, argTypes := ts }) (hd : o.dst = some d) (hN : Nat.blt d N = true)
    (he : Ent P f) (hargs : evs L args.toList = some vals)
    (hc : ∀ w, WS B w its ps → Calls P f vals.toArray w fun e' w' => ∃ v0 v1 v2, e' = .returned (V v0 v1 v2) ∧ da.R e0 w' w.heap.size (fun _ => True) v0 xs ∧ db.R e1 w' w.heap.size (fun k_ => some k_ ≠ (v2 : Value).ownBlock) v1 ys ∧ dc.R e2 w' w.heap.size (fun k_ => some k_ ≠ (v1 : Value).ownBlock) v2 zs ∧ Below w.heap.size w w')
    (h : ∀ A0 c0 A1 c1 A2 c2, xs.length ≤ c0 → ys.length ≤ c1 → zs.length ≤ c2 → Jl P N B D (k + 1) ops Q rest ((d, V (.slice A0 xs.length c0) (.slice A1 ys.length c1) (.slice A2 zs.length c2)) :: L) its ((fun W => da.C W A0 xs.length xs) :: (fun W => db.C W A1 ys.length ys) :: (fun W => dc.C W A2 zs.length zs) :: ps)) (hD : D.takes k = false := by rfl) : Jl P N B D k ops Q (o :: rest) L its ps :=
  Jl.call (ι := (Option Addr × Nat) × (Option Addr × Nat) × (Option Addr × Nat)) (fun i => xs.length ≤ i.1.2 ∧ ys.length ≤ i.2.1.2 ∧ zs.length ≤ i.2.2.2) (fun i => V (.slice i.1.1 xs.length i.1.2) (.slice i.2.1.1 ys.length i.2.1.2) (.slice i.2.2.1 zs.length i.2.2.2)) (fun _ => its) (fun i => (fun W => da.C W i.1.1 xs.length xs) :: (fun W => db.C W i.2.1.1 ys.length ys) :: (fun W => dc.C W i.2.2.1 zs.length zs) :: ps) hw hop hd hN rfl he hargs (fun w hW => by
    simp only [Array.empty_append, Array.append_empty]
    refine (hc w hW).mono ?_
    rintro e' w' ⟨v0, v1, v2, rfl, r0, r1, r2, hb⟩
    obtain ⟨A0, c0, rfl, l0, _⟩ := Kd.R_reads r0
    obtain ⟨A1, c1, rfl, l1, _⟩ := Kd.R_reads r1
    obtain ⟨A2, c2, rfl, l2, _⟩ := Kd.R_reads r2
    have hF := hW.fresh hb (p := fun W => da.C W A0 xs.length xs ∧ db.C W A1 ys.length ys ∧ dc.C W A2 zs.length zs) (fun W _ _ _ _ hm => ⟨rowsC r0 hm, rowsC r1 hm, rowsC r2 hm⟩)
    have h3 := hF.imp (.head _) (fun W h => h.2.2)
    have h2 := h3.imp (.tail _ (.head _)) (fun W h => h.2.1)
    have h1 := h2.imp (.tail _ (.tail _ (.head _))) (fun W h => h.1)
    refine ⟨((A0, c0), (A1, c1), (A2, c2)), rfl, ⟨l0, l1, l2⟩, h1.sub (fun p hp => ?_), fun _ => hb⟩
    simp only [List.mem_cons] at hp ⊢
    rcases hp with rfl | rfl | rfl | hp
    · exact .inl rfl
    · exact .inr (.inl rfl)
    · exact .inr (.inr (.inl rfl))
    · exact .inr (.inr (.inr (.inr hp)))) (fun i hi => h i.1.1 i.1.2 i.2.1.1 i.2.1.2 i.2.2.1 i.2.2.2 hi.1 hi.2.1 hi.2.2) hD
end
end Go.Proofs.YtcgpibbbkdhpeaaW.SL

namespace Go.Proofs.YtcgpibbbkdhpeaaW.SL
open Go Go.RowKit Go.Proofs.YtcgpibbbkdhpeaaW.PrintWords
set_option linter.unusedSimpArgs false
set_option linter.unusedVariables false
section
variable {P : Program} {N : Nat} {B : Base} {L : Sl} {its : List Item} {ps : List (World → Prop)} {o : Oper} {T n m : Nat} {x : Operand} {ad ad' : Addr} {α : Type} {dk : Kd α} {xs : List α} {u : Value}
namespace Y
theorem loadK1 (z : α) (us : List Value) (hop : o.op = .load T x) (hx : ev L x = some (.pointer (some ad'))) (hT : ScT P T) (hp : (fun w => dk.C w (some ad) n xs) ∈ ps) (i : Int) (j : Nat) (h0 : 0 ≤ i) (h1 : i < (n : Int)) (had : ad' = (ad.add (i.toNat * dk.sz)).add j) (hus : ∀ w cs, dk.K w (xs.getD i.toNat z) cs → cs = us) (hu : us[j]? = some u) : Yd P N B o u L its ps := .mk <| fun a w hf hW => by
  obtain ⟨ad2, c, e, hl, hr, hcell⟩ := ReadsRow.get_ (hW.fact hp) z i h0 h1
  injection e with e
  subst e
  obtain rfl := hus w c hr
  have hC : w.cell? ad' = some u := by rw [had, add_add]; exact hcell j u hu
  unfold execOp; rw [hop]; simp [hf.ev hx, run_load_one hT.out hC]
end Y
end
end Go.Proofs.YtcgpibbbkdhpeaaW.SL

namespace Go.Proofs.YtcgpibbbkdhpeaaW.Pl
open Go.RowKit Go.Proofs.YtcgpibbbkdhpeaaW.PrintWords Classical

theorem w64 {x : Int} (h : -9223372036854775808 ≤ x ∧ x ≤ 9223372036854775807) : wrap64 x = x := by unfold wrap64; omega
/-- A place of a list (a word that simp leaves alone). -/
def nth {α : Type} (l : List α) (i : Nat) (z : α) : α := l.getD i z
theorem nth_get {α : Type} {l : List α} {i : Nat} {z : α} (h : i < l.length) : nth l i z = l[i] := by
  unfold nth; rw [List.getD_eq_getElem?_getD, List.getElem?_eq_getElem h]; rfl
theorem all_iff_nth {α : Type} {l : List α} {p : α → Bool} (z : α) : l.all p = true ↔ ∀ i, i < l.length → p (nth l i z) = true := by
  rw [List.all_eq_true]
  constructor
  · intro h i hi
    rw [nth_get hi]; exact h _ (List.getElem_mem hi)
  · intro h x hx
    obtain ⟨i, hi, rfl⟩ := List.getElem_of_mem hx
    have := h i hi
    rwa [nth_get hi] at this
theorem range_all {n : Nat} {p : Nat → Bool} : (List.range n).all p = true ↔ ∀ i, i < n → p i = true := by
  rw [List.all_eq_true]; simp
/-! ### with 'from some number of rounds on' -/
theorem Ev.succ {α : Type} {g : Nat → Option α} {r : α} (h : Ev (fun k => g (k + 1)) r) : Ev g r := Ev.step (fun _ => rfl) h
theorem Ev.c {α : Type} {x : Option α} {r : α} (h : x = some r) : Ev (fun _ => x) r := ⟨0, fun _ _ => h⟩
theorem scanE {γ : Type} (n : Nat) (ok : Nat → Bool) (e bad : γ) (loop : Nat → Int → Option γ)
    (hs : ∀ (i : Nat) (r : γ), i < n → ok i = true → Ev (fun k => loop k ((i + 1 : Nat) : Int)) r → Ev (fun k => loop k (i : Int)) r)
    (hb : ∀ (i : Nat), i < n → ok i = false → Ev (fun k => loop k (i : Int)) bad)
    (he : Ev (fun k => loop k (n : Int)) e) : Ev (fun k => loop k 0) (if (List.range n).all ok = true then e else bad) := by
  have main : ∀ d (i : Nat), n - i = d → i ≤ n → Ev (fun k => loop k (i : Int)) (if (∀ j, i ≤ j → j < n → ok j = true) then e else bad) := by
    intro d
    induction d with
    | zero =>
      intro i hd hi
      have : i = n := by omega
      subst this
      rw [if_pos (fun j h1 h2 => by omega)]; exact he
    | succ d ih =>
      intro i hd hi
      cases ho : ok i with
      | true =>
        refine hs i _ (by omega) ho ?_
        have := ih (i + 1) (by omega) (by omega)
        by_cases hall : ∀ j, i ≤ j → j < n → ok j = true
        · rw [if_pos hall]; rwa [if_pos (fun j h1 h2 => hall j (by omega) h2)] at this
        · rw [if_neg hall]; rwa [if_neg (fun h => hall (fun j h1 h2 => by
            by_cases e : j = i
            · subst e; exact ho
            · exact h j (by omega) h2))] at this
      | false =>
        rw [if_neg (fun h => by have := h i (by omega) (by omega); rw [ho] at this; cases this)]
        exact hb i (by omega) ho
  have := main n 0 (by omega) (by omega)
  by_cases hall : ∀ j, 0 ≤ j → j < n → ok j = true
  · rw [if_pos hall] at this
    rw [if_pos (List.all_eq_true.2 (fun j hj => hall j (by omega) (by simpa using hj)))]
    exact this
  · rw [if_neg hall] at this
    rw [if_neg (fun h => hall (fun j _ h2 => List.all_eq_true.1 h j (by simpa using h2)))]
    exact this
/-- As foldE, where what is reached so far stays within bounds. -/
theorem foldI {σ γ : Type} (n : Nat) (I : Nat → σ → Prop) (f : Nat → σ → σ) (loop : Nat → σ → Int → Option γ) (r : σ → γ)
    (hi : ∀ i s, i < n → I i s → I (i + 1) (f i s))
    (hs : ∀ (i : Nat) (s : σ) (q : γ), i < n → I i s → Ev (fun k => loop k (f i s) ((i + 1 : Nat) : Int)) q → Ev (fun k => loop k s (i : Int)) q)
    (he : ∀ s, I n s → Ev (fun k => loop k s (n : Int)) (r s)) (s : σ) (h0 : I 0 s) : Ev (fun k => loop k s 0) (r ((List.range n).foldl (fun s i => f i s) s)) ∧ I n ((List.range n).foldl (fun s i => f i s) s) := by
  have main : ∀ d (i : Nat) (s : σ), n - i = d → i ≤ n → I i s → Ev (fun k => loop k s (i : Int)) (r ((List.range' i (n - i)).foldl (fun s i => f i s) s)) ∧ I n ((List.range' i (n - i)).foldl (fun s i => f i s) s) := by
    intro d
    induction d with
    | zero =>
      intro i s hd hn hI
      have : i = n := by omega
      subst this
      simpa using And.intro (he s hI) hI
    | succ d ih =>
      intro i s hd hn hI
      have := ih (i + 1) (f i s) (by omega) (by omega) (hi i s (by omega) hI)
      rw [show n - i = (n - (i + 1)) + 1 by omega, List.range'_succ, List.foldl_cons]
      exact ⟨hs i s _ (by omega) hI this.1, this.2⟩
  have := main n 0 s (by omega) (by omega) h0
  rwa [Nat.sub_zero, ← List.range_eq_range'] at this
theorem stepI (n : Nat) (h : n < 4611686018427387904) : wrap64 ((n : Int) + 1) = ((n + 1 : Nat) : Int) := by
  rw [w64 (by omega)]
  rfl
theorem predI (n : Nat) (h : 1 ≤ n ∧ n < 4611686018427387904) : wrap64 ((n : Int) - 1) = ((n - 1 : Nat) : Int) := by
  rw [w64 (by omega)]
  omega
end Go.Proofs.YtcgpibbbkdhpeaaW.Pl

namespace Go.Proofs.Ytcgpibbbkdhpeaa.M
open Go.RowKit Go.Proofs.Ytcgpibbbkdhpeaa.Q Go.Proofs.YtcgpibbbkdhpeaaW.PrintWords Go.Proofs.YtcgpibbbkdhpeaaW.PrintLast Go.Proofs.YtcgpibbbkdhpeaaW.Pl Classical
set_option linter.unusedSimpArgs false

theorem rdI (l : List Int) (i : Nat) : rd l (i : Int) = nth l i 0 := by unfold rd nth; simp
end Go.Proofs.Ytcgpibbbkdhpeaa.M

namespace Go.Proofs.Ytcgpibbbkdhpeaa.M
open Go.RowKit Go.Proofs.Ytcgpibbbkdhpeaa.Q Go.Proofs.YtcgpibbbkdhpeaaW.PrintWords Go.Proofs.YtcgpibbbkdhpeaaW.PrintLast Go.Proofs.YtcgpibbbkdhpeaaW.Pl Classical
set_option linter.unusedSimpArgs false
set_option linter.unusedVariables false

theorem rd51 (l : List S51) (i : Nat) : rd_T51 l (i : Int) = nth l i z51 := by unfold rd_T51 nth; simp
theorem l1In (a b c : Int) : spec_l1In.f a b c = some (decide (b ≤ a ∧ a ≤ c)) := by
  unfold spec_l1In.f
  by_cases h : b ≤ a <;> by_cases h2 : a ≤ c <;> simp [h, h2]
theorem iIn (a b c : Int) : impl_in.f a b c = some (decide (b ≤ a ∧ a ≤ c)) := by
  unfold impl_in.f
  by_cases h : b ≤ a <;> by_cases h2 : a ≤ c <;> simp [h, h2]
/-- A valid job. -/
def okF (a b c d e : Int) : Bool := decide ((1 ≤ a ∧ a ≤ 99) ∧ (1 ≤ b ∧ b ≤ 500) ∧ (1 ≤ c ∧ c ≤ 400) ∧ (0 ≤ d ∧ d ≤ 4000) ∧ (0 ≤ e ∧ e ≤ 4000) ∧ d ≤ e)
def okJ (x : S51) : Bool := okF x.f0 x.f1 x.f2 x.f3 x.f4
theorem iValid (x : S51) : impl_LoomJob_isValid.f x.f0 x.f1 x.f2 x.f3 x.f4 = some (okJ x) := by
  unfold impl_LoomJob_isValid.f impl_isId.f impl_isJobWide.f impl_isDay.f okJ okF
  simp only [iIn, Option.bind_some]
  repeat' split
  all_goals (simp_all <;> omega)
def ascAt (l : List S51) (i : Nat) : Bool := decide (i = 0) || decide ((nth l (i - 1) z51).f0 < (nth l i z51).f0)
/-- Valid jobs, in order. -/
def goodJ (l : List S51) : Bool := decide (l.length ≤ 6) && (List.range l.length).all fun i => okJ (nth l i z51) && ascAt l i
theorem sJobs (l : List S51) (hm : l.length ≤ 1048576) : Ev (fun k => spec_l16Jobs.f k l) (goodJ l) := by
  unfold spec_l16Jobs.f
  have h := scanE l.length (fun i => okJ (nth l i z51) && ascAt l i) (decide (l.length ≤ 6)) false (fun k i => spec_l16Jobs.l0 k l i) ?hs ?hb ?he
  case hs =>
    intro i r hi ho hr
    refine Ev.succ ?_
    rw [Bool.and_eq_true] at ho
    obtain ⟨h1, h2⟩ := ho
    unfold okJ okF at h1
    have h1 := of_decide_eq_true h1
    unfold ascAt at h2
    simp only [Bool.or_eq_true, decide_eq_true_iff] at h2
    simp only [spec_l16Jobs.l0, spec_l2Day.f, rd51, l1In, Option.bind_some, if_pos (show (i : Int) < (l.length : Int) by omega), if_pos (show (0 : Int) ≤ (i : Int) by omega), h1, and_self, decide_true, if_true, stepI i (by omega), if_neg (show ¬ ((nth l i z51).f4 < (nth l i z51).f3) by omega)]
    by_cases h0 : i = 0
    · subst h0
      simp only [if_neg (show ¬ (((0 : Nat) : Int) > 0) by omega)]
      exact hr
    · simp only [if_pos (show (i : Int) > 0 by omega), predI i (by omega), if_pos (show (0 : Int) ≤ ((i - 1 : Nat) : Int) by omega), if_pos (show ((i - 1 : Nat) : Int) < (l.length : Int) by omega), rd51]
      simp only [if_neg (show ¬ ((nth l (i - 1) z51).f0 ≥ (nth l i z51).f0) by omega)]
      exact hr
  case hb =>
    intro i hi ho
    refine Ev.succ ?_
    simp only [spec_l16Jobs.l0, spec_l2Day.f, rd51, l1In, Option.bind_some, if_pos (show (i : Int) < (l.length : Int) by omega), if_pos (show (0 : Int) ≤ (i : Int) by omega)]
    by_cases h1 : okJ (nth l i z51) = true
    · rw [h1, Bool.true_and] at ho
      unfold ascAt at ho
      rw [Bool.or_eq_false_iff, decide_eq_false_iff_not, decide_eq_false_iff_not] at ho
      unfold okJ okF at h1
      have h1 := of_decide_eq_true h1
      simp only [h1, and_self, decide_true, if_true, if_neg (show ¬ ((nth l i z51).f4 < (nth l i z51).f3) by omega), if_pos (show (i : Int) > 0 by omega), predI i (by omega), if_pos (show (0 : Int) ≤ ((i - 1 : Nat) : Int) by omega), if_pos (show ((i - 1 : Nat) : Int) < (l.length : Int) by omega), rd51]
      simp only [if_pos (show (nth l (i - 1) z51).f0 ≥ (nth l i z51).f0 by omega)]
      exact Ev.now _
    · unfold okJ okF at h1
      rw [decide_eq_true_iff] at h1
      by_cases g1 : 1 ≤ (nth l i z51).f0 ∧ (nth l i z51).f0 ≤ 99 <;> simp only [g1, and_self, decide_true, decide_false, if_true, Bool.false_eq_true, if_false]
      · by_cases g2 : 1 ≤ (nth l i z51).f1 ∧ (nth l i z51).f1 ≤ 500 <;> simp only [g2, and_self, decide_true, decide_false, if_true, Bool.false_eq_true, if_false]
        · by_cases g3 : 1 ≤ (nth l i z51).f2 ∧ (nth l i z51).f2 ≤ 400 <;> simp only [g3, and_self, decide_true, decide_false, if_true, Bool.false_eq_true, if_false]
          · by_cases g4 : 0 ≤ (nth l i z51).f3 ∧ (nth l i z51).f3 ≤ 4000 <;> simp only [g4, and_self, decide_true, decide_false, if_true, Bool.false_eq_true, if_false]
            · by_cases g5 : 0 ≤ (nth l i z51).f4 ∧ (nth l i z51).f4 ≤ 4000 <;> simp only [g5, and_self, decide_true, decide_false, if_true, Bool.false_eq_true, if_false]
              · simp only [if_pos (show (nth l i z51).f4 < (nth l i z51).f3 by omega)]
                exact Ev.now _
              · exact Ev.now _
            · exact Ev.now _
          · exact Ev.now _
        · exact Ev.now _
      · exact Ev.now _
  case he =>
    refine Ev.succ ?_
    simp only [spec_l16Jobs.l0, if_neg (show ¬ ((l.length : Int) < (l.length : Int)) by omega)]
    refine Ev.c ?_
    congr 1
    by_cases h : l.length ≤ 6
    · rw [decide_eq_true h, decide_eq_true (by omega)]
    · rw [decide_eq_false h, decide_eq_false (by omega)]
  have e : (if ((List.range l.length).all fun i => okJ (nth l i z51) && ascAt l i) = true then decide (l.length ≤ 6) else false) = goodJ l := by
    unfold goodJ
    generalize (List.range l.length).all _ = b
    cases b <;> simp
  rw [e] at h
  exact h
theorem iAsc (l : List S51) (hm : l.length ≤ 1048576) : Ev (fun k => impl_LoomJob_51__impl_AreJobs_1.f k l) ((List.range l.length).all fun i => ascAt l i) := by
  unfold impl_LoomJob_51__impl_AreJobs_1.f
  have main : ∀ d (i : Nat), l.length + 1 - i = d → 1 ≤ i → i ≤ l.length + 1 → Ev (fun k => impl_LoomJob_51__impl_AreJobs_1.l0 k l (i : Int)) (decide (∀ j, i ≤ j → j < l.length → (nth l (j - 1) z51).f0 < (nth l j z51).f0)) := by
    intro d
    induction d with
    | zero =>
      intro i hd h1 hi
      refine Ev.succ ?_
      simp only [impl_LoomJob_51__impl_AreJobs_1.l0, if_neg (show ¬ ((i : Int) < (l.length : Int)) by omega)]
      rw [decide_eq_true (fun j h2 h3 => by omega)]
      exact Ev.now _
    | succ d ih =>
      intro i hd h1 hi
      refine Ev.succ ?_
      by_cases hlt : i < l.length
      · simp only [impl_LoomJob_51__impl_AreJobs_1.l0, impl_AreJobs_1.f, if_pos (show (i : Int) < (l.length : Int) by omega), predI i (by omega), if_pos (show (0 : Int) ≤ ((i - 1 : Nat) : Int) by omega), if_pos (show ((i - 1 : Nat) : Int) < (l.length : Int) by omega), rd51, Option.bind_some, if_pos (show (0 : Int) ≤ (i : Int) by omega), stepI i (by omega)]
        by_cases hle : (nth l (i - 1) z51).f0 < (nth l i z51).f0
        · simp only [if_neg (show ¬ ((nth l (i - 1) z51).f0 ≥ (nth l i z51).f0) by omega)]
          have := ih (i + 1) (by omega) (by omega) (by omega)
          rw [show (decide (∀ j, i ≤ j → j < l.length → (nth l (j - 1) z51).f0 < (nth l j z51).f0)) = decide (∀ j, i + 1 ≤ j → j < l.length → (nth l (j - 1) z51).f0 < (nth l j z51).f0) from by
            rw [decide_eq_decide]
            exact ⟨fun h j h2 h3 => h j (by omega) h3, fun h j h2 h3 => by
              by_cases e : j = i
              · subst e; exact hle
              · exact h j (by omega) h3⟩]
          exact this
        · simp only [if_pos (show (nth l (i - 1) z51).f0 ≥ (nth l i z51).f0 by omega)]
          rw [decide_eq_false (fun h => hle (h i (by omega) hlt))]
          exact Ev.now _
      · simp only [impl_LoomJob_51__impl_AreJobs_1.l0, if_neg (show ¬ ((i : Int) < (l.length : Int)) by omega)]
        rw [decide_eq_true (fun j h2 h3 => by omega)]
        exact Ev.now _
  have h := main l.length 1 (by omega) (by omega) (by omega)
  rw [show ((List.range l.length).all fun i => ascAt l i) = decide (∀ j, 1 ≤ j → j < l.length → (nth l (j - 1) z51).f0 < (nth l j z51).f0) from by
    rw [Bool.eq_iff_iff, range_all, decide_eq_true_iff]
    constructor
    · intro h j h1 h2
      have := h j h2
      unfold ascAt at this
      simp only [Bool.or_eq_true, decide_eq_true_iff] at this
      omega
    · intro h j h2
      unfold ascAt
      by_cases h0 : j = 0
      · simp [h0]
      · simp [h j (by omega) h2]]
  exact h
theorem all_split {n : Nat} {p q : Nat → Bool} : ((List.range n).all fun i => p i && q i) = ((List.range n).all p && (List.range n).all q) := by
  rw [Bool.eq_iff_iff, Bool.and_eq_true, range_all, range_all, range_all]
  constructor
  · intro h
    exact ⟨fun i hi => by have := h i hi; rw [Bool.and_eq_true] at this; exact this.1, fun i hi => by have := h i hi; rw [Bool.and_eq_true] at this; exact this.2⟩
  · intro ⟨h1, h2⟩ i hi
    rw [h1 i hi, h2 i hi]; rfl
theorem all_nth {α : Type} {l : List α} {p : α → Bool} (z : α) : l.all p = (List.range l.length).all fun i => p (nth l i z) := by
  rw [Bool.eq_iff_iff, all_iff_nth z, range_all]
theorem iJobs (l : List S51) (hm : l.length ≤ 1048576) : Ev (fun k => impl_AreJobs.f k l) (goodJ l) := by
  unfold impl_AreJobs.f impl_LoomJob_49__impl_LoomJob_isValid.f
  rw [all_total (p := okJ) (fun x _ => iValid x)]
  unfold goodJ
  rw [all_split, ← all_nth (p := okJ) z51]
  by_cases hl : l.length ≤ 6
  · simp only [if_pos (show (l.length : Int) ≤ 6 by omega), Option.bind_some, decide_eq_true hl, Bool.true_and]
    by_cases ha : l.all okJ = true
    · simp only [ha, if_true, Bool.true_and]
      exact Ev.bind (iAsc l hm) (Ev.now _)
    · simp only [ha, Bool.false_eq_true, if_false, Bool.false_and]
      exact Ev.now _
  · simp only [if_neg (show ¬ ((l.length : Int) ≤ 6) by omega), decide_eq_false hl, Bool.false_and]
    exact Ev.now _
/-- Valid looms. -/
def okL (x : Int) : Bool := decide (1 ≤ x ∧ x ≤ 500)
def goodL (l : List Int) : Bool := (List.range l.length).all (fun i => okL (nth l i 0)) && decide (1 ≤ l.length ∧ l.length ≤ 3)
theorem iLooms (l : List Int) : impl_areJobLooms.f l = some (goodL l) := by
  unfold impl_areJobLooms.f impl_areAll_int__impl_isJobWide.f goodL
  rw [all_total (p := okL) (fun x _ => by unfold impl_isJobWide.f okL; rw [iIn]; rfl), all_nth (p := okL) 0, iIn]
  by_cases h : 1 ≤ l.length ∧ l.length ≤ 3
  · simp [h, show (1 : Int) ≤ (l.length : Int) ∧ (l.length : Int) ≤ 3 by omega]
  · rw [decide_eq_false h, decide_eq_false (by omega)]; simp
theorem sBoth (l : List S51) (m : List Int) (hl : l.length ≤ 1048576) (hm : m.length ≤ 1048576) : Ev (fun k => spec_l16Both.f k l m) (goodJ l && goodL m) := by
  unfold spec_l16Both.f
  have h := scanE m.length (fun i => okL (nth m i 0)) (goodJ l && decide (1 ≤ m.length ∧ m.length ≤ 3)) false (fun k i => spec_l16Both.l0 k l m i) ?hs ?hb ?he
  case hs =>
    intro i r hi ho hr
    refine Ev.succ ?_
    simp only [spec_l16Both.l0, rdI, l1In, Option.bind_some, if_pos (show (i : Int) < (m.length : Int) by omega), if_pos (show (0 : Int) ≤ (i : Int) by omega), stepI i (by omega), show decide (1 ≤ nth m i 0 ∧ nth m i 0 ≤ 500) = true from ho, if_true]
    exact hr
  case hb =>
    intro i hi ho
    refine Ev.succ ?_
    simp only [spec_l16Both.l0, rdI, l1In, Option.bind_some, if_pos (show (i : Int) < (m.length : Int) by omega), if_pos (show (0 : Int) ≤ (i : Int) by omega), stepI i (by omega), show decide (1 ≤ nth m i 0 ∧ nth m i 0 ≤ 500) = false from ho, Bool.false_eq_true, if_false]
    exact Ev.now _
  case he =>
    refine Ev.succ ?_
    simp only [spec_l16Both.l0, if_neg (show ¬ ((m.length : Int) < (m.length : Int)) by omega), l1In, Option.bind_some]
    refine Ev.bind (sJobs l hl) ?_
    cases goodJ l with
    | true =>
      simp only [if_true, Bool.true_and]
      refine Ev.c ?_
      congr 1
      rw [decide_eq_decide]
      omega
    | false =>
      simp only [Bool.false_eq_true, if_false, Bool.false_and]
      exact Ev.now _
  have e : (if ((List.range m.length).all fun i => okL (nth m i 0)) = true then (goodJ l && decide (1 ≤ m.length ∧ m.length ≤ 3)) else false) = (goodJ l && goodL m) := by
    unfold goodL
    generalize (List.range m.length).all _ = b
    cases b <;> cases goodJ l <;> simp
  rw [e] at h
  exact h
/-- A place of a plan. -/
def okP (l : List S51) (m p : List Int) (i : Nat) : Bool := decide ((0 ≤ nth p i 0 ∧ nth p i 0 ≤ (m.length : Int) - 1) ∧ (nth l i z51).f1 ≤ rd m (nth p i 0))
def goodP (l : List S51) (m p : List Int) : Bool := decide (p.length = l.length) && (List.range p.length).all fun i => okP l m p i
theorem sPlan (l : List S51) (m p : List Int) (hl : l.length ≤ 1048576) (hm : m.length ≤ 1048576) : Ev (fun k => spec_l16Plan.f k l m p) (goodP l m p) := by
  unfold spec_l16Plan.f goodP
  by_cases hpl : p.length = l.length
  · simp only [if_pos (show (p.length : Int) = (l.length : Int) by omega), decide_eq_true hpl, Bool.true_and]
    have h := scanE p.length (fun i => okP l m p i) true false (fun k i => spec_l16Plan.l0 k l m p i) ?hs ?hb ?he
    case hs =>
      intro i r hi ho hr
      refine Ev.succ ?_
      unfold okP at ho
      have ho := of_decide_eq_true ho
      simp only [spec_l16Plan.l0, rdI, rd51, l1In, Option.bind_some, if_pos (show (i : Int) < (p.length : Int) by omega), if_pos (show (0 : Int) ≤ (i : Int) by omega), if_pos (show (i : Int) < (l.length : Int) by omega), stepI i (by omega), w64 (x := (m.length : Int) - 1) (by omega), ho.1, and_self, decide_true, if_true, if_pos (show nth p i 0 < (m.length : Int) by omega), if_neg (show ¬ (rd m (nth p i 0) < (nth l i z51).f1) by omega)]
      exact hr
    case hb =>
      intro i hi ho
      refine Ev.succ ?_
      unfold okP at ho
      have ho := of_decide_eq_false ho
      simp only [spec_l16Plan.l0, rdI, rd51, l1In, Option.bind_some, if_pos (show (i : Int) < (p.length : Int) by omega), if_pos (show (0 : Int) ≤ (i : Int) by omega), if_pos (show (i : Int) < (l.length : Int) by omega), stepI i (by omega), w64 (x := (m.length : Int) - 1) (by omega)]
      by_cases g : 0 ≤ nth p i 0 ∧ nth p i 0 ≤ (m.length : Int) - 1
      · simp only [g, and_self, decide_true, if_true, if_pos (show nth p i 0 < (m.length : Int) by omega), if_pos (show rd m (nth p i 0) < (nth l i z51).f1 by omega)]
        exact Ev.now _
      · simp only [g, decide_false, Bool.false_eq_true, if_false]
        exact Ev.now _
    case he =>
      refine Ev.succ ?_
      simp only [spec_l16Plan.l0, if_neg (show ¬ ((p.length : Int) < (p.length : Int)) by omega)]
      exact Ev.now _
    rw [show ((List.range p.length).all fun i => okP l m p i) = if ((List.range p.length).all fun i => okP l m p i) = true then true else false by cases ((List.range p.length).all fun i => okP l m p i) <;> rfl]
    exact h
  · simp only [if_neg (show ¬ ((p.length : Int) = (l.length : Int)) by omega), decide_eq_false hpl, Bool.false_and]
    exact Ev.now _
theorem iPlan (l : List S51) (m p : List Int) (hl : l.length ≤ 1048576) (hm : m.length ≤ 1048576) : Ev (fun k => impl_isLoomPlan.f k l m p) (goodP l m p) := by
  unfold impl_isLoomPlan.f goodP
  by_cases hpl : p.length = l.length
  · simp only [if_pos (show (p.length : Int) = (l.length : Int) by omega), decide_eq_true hpl, Bool.true_and]
    have h := scanE p.length (fun i => okP l m p i) true false (fun k i => impl_isLoomPlan.l0 k l m p (p.length : Int) i) ?hs ?hb ?he
    case hs =>
      intro i r hi ho hr
      refine Ev.succ ?_
      unfold okP at ho
      have ho := of_decide_eq_true ho
      simp only [impl_isLoomPlan.l0, rdI, rd51, iIn, Option.bind_some, if_pos (show (i : Int) < (p.length : Int) by omega), if_pos (show (0 : Int) ≤ (i : Int) by omega), if_pos (show (i : Int) < (l.length : Int) by omega), stepI i (by omega), w64 (x := (m.length : Int) - 1) (by omega), ho.1, and_self, decide_true, if_true, if_pos (show nth p i 0 < (m.length : Int) by omega), if_neg (show ¬ (rd m (nth p i 0) < (nth l i z51).f1) by omega)]
      exact hr
    case hb =>
      intro i hi ho
      refine Ev.succ ?_
      unfold okP at ho
      have ho := of_decide_eq_false ho
      simp only [impl_isLoomPlan.l0, rdI, rd51, iIn, Option.bind_some, if_pos (show (i : Int) < (p.length : Int) by omega), if_pos (show (0 : Int) ≤ (i : Int) by omega), if_pos (show (i : Int) < (l.length : Int) by omega), stepI i (by omega), w64 (x := (m.length : Int) - 1) (by omega)]
      by_cases g : 0 ≤ nth p i 0 ∧ nth p i 0 ≤ (m.length : Int) - 1
      · simp only [g, and_self, decide_true, if_true, if_pos (show nth p i 0 < (m.length : Int) by omega), if_pos (show rd m (nth p i 0) < (nth l i z51).f1 by omega)]
        exact Ev.now _
      · simp only [g, decide_false, Bool.false_eq_true, if_false]
        exact Ev.now _
    case he =>
      refine Ev.succ ?_
      simp only [impl_isLoomPlan.l0, if_neg (show ¬ ((p.length : Int) < (p.length : Int)) by omega)]
      exact Ev.now _
    rw [show ((List.range p.length).all fun i => okP l m p i) = if ((List.range p.length).all fun i => okP l m p i) = true then true else false by cases ((List.range p.length).all fun i => okP l m p i) <;> rfl]
    exact h
  · simp only [if_neg (show ¬ ((p.length : Int) = (l.length : Int)) by omega), decide_eq_false hpl, Bool.false_and]
    exact Ev.now _
/-- What IsLoomPlan answers. -/
def planRes (l : List S51) (m p : List Int) : Bool × Bool := if (goodJ l && goodL m) = true then (goodP l m p, true) else (false, false)
theorem iIsPlan (l : List S51) (m p : List Int) (hl : l.length ≤ 1048576) (hm : m.length ≤ 1048576) : Ev (fun k => impl_IsLoomPlan.f k l m p) (planRes l m p) := by
  unfold impl_IsLoomPlan.f planRes
  refine Ev.bind (iJobs l hl) ?_
  cases goodJ l with
  | true =>
    simp only [if_true, iLooms, Option.bind_some, Bool.true_and]
    cases goodL m with
    | true =>
      simp only [if_true]
      exact Ev.bind (iPlan l m p hl hm) (Ev.now _)
    | false =>
      simp only [Bool.false_eq_true, if_false]
      exact Ev.now _
  | false =>
    simp only [Bool.false_eq_true, if_false, Bool.false_and]
    exact Ev.now _
end Go.Proofs.Ytcgpibbbkdhpeaa.M

namespace Go.Proofs.Ytcgpibbbkdhpeaa.M
open Go.RowKit Go.Proofs.Ytcgpibbbkdhpeaa.Q Go.Proofs.YtcgpibbbkdhpeaaW.PrintWords Go.Proofs.YtcgpibbbkdhpeaaW.PrintLast Go.Proofs.YtcgpibbbkdhpeaaW.Pl Classical
set_option linter.unusedSimpArgs false
set_option linter.unusedVariables false

def asked (l : List S51) (m p : List Int) : Bool := (goodJ l && goodL m) && goodP l m p
theorem sAsked (l : List S51) (m p : List Int) (hl : l.length ≤ 1048576) (hm : m.length ≤ 1048576) : Ev (fun k => spec_l16Asked.f k l m p) (asked l m p) := by
  unfold spec_l16Asked.f asked
  refine Ev.bind (sBoth l m hl hm) ?_
  by_cases h : (goodJ l && goodL m) = true
  · simp only [h, if_true, Bool.true_and]
    exact Ev.bind (sPlan l m p hl hm) (Ev.now _)
  · simp only [h, Bool.false_eq_true, if_false, Bool.false_and]
    exact Ev.now _
theorem iAsked (l : List S51) (m p : List Int) (hl : l.length ≤ 1048576) (hm : m.length ≤ 1048576) : Ev (fun k => impl_isPlanned.f k l m p) (asked l m p) := by
  unfold impl_isPlanned.f asked
  refine Ev.bind (iIsPlan l m p hl hm) ?_
  unfold planRes
  by_cases h : (goodJ l && goodL m) = true
  · simp only [h, if_true, Bool.true_and]
    cases goodP l m p <;> exact Ev.now _
  · simp only [h, Bool.false_eq_true, if_false, Bool.false_and]
    exact Ev.now _
/-- What a valid call gives. -/
theorem asked_at {l : List S51} {m p : List Int} (h : asked l m p = true) : l.length ≤ 6 ∧ (1 ≤ m.length ∧ m.length ≤ 3) ∧ p.length = l.length ∧ (∀ i, i < l.length → okJ (nth l i z51) = true) ∧ ∀ i, i < p.length → 0 ≤ nth p i 0 ∧ nth p i 0 < (m.length : Int) := by
  unfold asked goodJ goodL goodP at h
  simp only [Bool.and_eq_true, decide_eq_true_iff, range_all] at h
  refine ⟨h.1.1.1, h.1.2.2, h.2.1, fun i hi => (h.1.1.2 i hi).1, fun i hi => ?_⟩
  have := h.2.2 i hi
  unfold okP at this
  have := of_decide_eq_true this
  omega
theorem most (a b : Int) : spec_l1Most.f a b = some (mx a b) := by
  unfold spec_l1Most.f mx
  by_cases h : a > b
  · rw [if_pos h, if_neg (by omega)]
  · by_cases h2 : a < b
    · rw [if_neg h, if_pos h2]
    · rw [if_neg h, if_neg h2]; congr 1; omega
/-- One more job: the ends so far, and the day on which each loom is free. -/
def stepE (l : List S51) (p : List Int) (i : Nat) (s : List Int × List Int) : List Int × List Int :=
  (s.1 ++ [wrap64 (mx (rd s.2 (nth p i 0)) (nth l i z51).f3 + (nth l i z51).f2)], s.2.set (nth p i 0).toNat (wrap64 (mx (rd s.2 (nth p i 0)) (nth l i z51).f3 + (nth l i z51).f2)))
def endsOf (l : List S51) (m p : List Int) : List Int × List Int := (List.range p.length).foldl (fun s i => stepE l p i s) ([], List.replicate m.length 0)
theorem sEnds (l : List S51) (m p : List Int) (h : asked l m p = true) : Ev (fun k => spec_l16Ends.f k l m p) (endsOf l m p) ∧ ((endsOf l m p).1.length = p.length ∧ (endsOf l m p).2.length = m.length) := by
  obtain ⟨hl, hm, hp, hj, hq⟩ := asked_at h
  unfold spec_l16Ends.f
  simp only [if_pos (show (0 : Int) ≤ (m.length : Int) by omega), Int.toNat_natCast, if_pos (show m.length ≤ 35184372088832 by omega)]
  have h := foldI (σ := List Int × List Int) p.length (fun i s => s.1.length = i ∧ s.2.length = m.length) (stepE l p) (fun k s i => spec_l16Ends.l0 k l p s.2 s.1 i) (fun s => s) ?hi ?hs ?he ([], List.replicate m.length 0) (by simp)
  case hi => intro i s hi ⟨h1, h2⟩; simp [stepE, h1, h2]
  case hs =>
    intro i s q hi ⟨h1, h2⟩ hq2
    have := hq i hi
    refine Ev.succ ?_
    simp only [spec_l16Ends.l0, rdI, rd51, most, Option.bind_some, if_pos (show (i : Int) < (p.length : Int) by omega), if_pos (show (0 : Int) ≤ (i : Int) by omega), if_pos this.1, if_pos (show nth p i 0 < (s.2.length : Int) by omega), if_pos (show (i : Int) < (l.length : Int) by omega), if_pos (show s.1.length < 17592186044416 by omega), stepI i (by omega)]
    exact hq2
  case he =>
    intro s _
    refine Ev.succ ?_
    simp only [spec_l16Ends.l0, if_neg (show ¬ ((p.length : Int) < (p.length : Int)) by omega)]
    exact Ev.now _
  exact h
theorem iEnds (l : List S51) (m p : List Int) (h : asked l m p = true) : Ev (fun k => impl_ends.f k l m p) (endsOf l m p) := by
  obtain ⟨hl, hm, hp, hj, hq⟩ := asked_at h
  unfold impl_ends.f
  simp only [if_pos (show (0 : Int) ≤ (m.length : Int) by omega), Int.toNat_natCast, if_pos (show m.length ≤ 35184372088832 by omega)]
  have h := foldI (σ := List Int × List Int) p.length (fun i s => s.1.length = i ∧ s.2.length = m.length) (stepE l p) (fun k s i => impl_ends.l0 k l s.1 s.2 p (p.length : Int) i) (fun s => s) ?hi ?hs ?he ([], List.replicate m.length 0) (by simp)
  case hi => intro i s hi ⟨h1, h2⟩; simp [stepE, h1, h2]
  case hs =>
    intro i s q hi ⟨h1, h2⟩ hq2
    have := hq i hi
    refine Ev.succ ?_
    simp only [impl_ends.l0, rdI, rd51, Option.bind_some, if_pos (show (i : Int) < (p.length : Int) by omega), if_pos (show (0 : Int) ≤ (i : Int) by omega), if_pos this.1, if_pos (show nth p i 0 < (s.2.length : Int) by omega), if_pos (show (i : Int) < (l.length : Int) by omega), if_pos (show s.1.length < 17592186044416 by omega), stepI i (by omega)]
    exact hq2
  case he =>
    intro s _
    refine Ev.succ ?_
    simp only [impl_ends.l0, if_neg (show ¬ ((p.length : Int) < (p.length : Int)) by omega)]
    exact Ev.now _
  exact h.1
end Go.Proofs.Ytcgpibbbkdhpeaa.M

namespace Go.Proofs.Ytcgpibbbkdhpeaa.M
open Go.RowKit Go.Proofs.Ytcgpibbbkdhpeaa.Q Go.Proofs.YtcgpibbbkdhpeaaW.PrintWords Go.Proofs.YtcgpibbbkdhpeaaW.PrintLast Go.Proofs.YtcgpibbbkdhpeaaW.Pl Classical
set_option linter.unusedSimpArgs false
set_option linter.unusedVariables false

/-- r is the greatest number of a list, from some place on not below m. -/
def IsMax (l : List Int) (r : Int) : Prop := (∀ j, j < l.length → nth l j 0 ≤ r) ∧ ∃ j, j < l.length ∧ nth l j 0 = r
theorem isMax_one {l : List Int} {r q : Int} (h : IsMax l r) (h2 : IsMax l q) : r = q := by
  obtain ⟨h1, j, hj, e⟩ := h
  obtain ⟨g1, i, hi, f⟩ := h2
  have := h1 i hi
  have := g1 j hj
  omega
theorem mx_le (a b : Int) : a ≤ mx a b ∧ b ≤ mx a b ∧ (mx a b = a ∨ mx a b = b) := by unfold mx; split <;> omega
theorem maxLoop (l : List Int) (hl : l.length ≤ 1048576) (h0 : 1 ≤ l.length) : ∃ r, IsMax l r ∧ Ev (fun k => slices_Max_int_int.f k l) r := by
  unfold slices_Max_int_int.f
  simp only [if_neg (show ¬ ((l.length : Int) < 1) by omega), if_pos (show 0 < (l.length : Int) by omega)]
  have main : ∀ d (i : Nat) (s : Int), l.length - i = d → 1 ≤ i → i ≤ l.length → (∀ j, j < i → nth l j 0 ≤ s) → (∃ j, j < i ∧ nth l j 0 = s) → ∃ r, IsMax l r ∧ Ev (fun k => slices_Max_int_int.l0 k l s (i : Int)) r := by
    intro d
    induction d with
    | zero =>
      intro i s hd h1 hi ha hb
      have hil : i = l.length := by omega
      subst hil
      refine ⟨s, ⟨ha, hb⟩, Ev.succ ?_⟩
      simp only [slices_Max_int_int.l0, if_neg (show ¬ ((l.length : Int) < (l.length : Int)) by omega)]
      exact Ev.now _
    | succ d ih =>
      intro i s hd h1 hi ha hb
      obtain ⟨m1, m2, m3⟩ := mx_le s (nth l i 0)
      obtain ⟨r, hr, g⟩ := ih (i + 1) (mx s (nth l i 0)) (by omega) (by omega) (by omega) (fun j hj => by
        by_cases e : j = i
        · subst e; exact m2
        · have := ha j (by omega); omega) (by
        obtain ⟨j, hj, e⟩ := hb
        rcases m3 with e3 | e3
        · exact ⟨j, by omega, by omega⟩
        · exact ⟨i, by omega, by omega⟩)
      refine ⟨r, hr, Ev.succ ?_⟩
      simp only [slices_Max_int_int.l0, rdI, if_pos (show (i : Int) < (l.length : Int) by omega), if_pos (show (0 : Int) ≤ (i : Int) by omega), stepI i (by omega)]
      exact g
  have h := main (l.length - 1) 1 (nth l 0 0) rfl (by omega) (by omega) (fun j hj => by
    have : j = 0 := by omega
    subst this; omega) ⟨0, by omega, rfl⟩
  have e : rd l 0 = nth l 0 0 := rdI l 0
  rw [e]
  exact h
theorem nth_set {l : List Int} {i j : Nat} {v : Int} (hj : j < l.length) : nth (l.set i v) j 0 = if i = j then v else nth l j 0 := by
  rw [nth_get (by simpa using hj), nth_get hj, List.getElem_set]
/-- The greatest of the ends so far is the greatest day on which a loom is free. -/
theorem endsMax (l : List S51) (m p : List Int) (h : asked l m p = true) : IsMax (endsOf l m p).2 ((endsOf l m p).1.foldl mx 0) := by
  obtain ⟨hl, hm, hp, hj, hq⟩ := asked_at h
  unfold endsOf
  have key : ∀ n, n ≤ p.length → (IsMax ((List.range n).foldl (fun s i => stepE l p i s) ([], List.replicate m.length 0)).2 (((List.range n).foldl (fun s i => stepE l p i s) ([], List.replicate m.length 0)).1.foldl mx 0)) ∧ ((List.range n).foldl (fun s i => stepE l p i s) ([], List.replicate m.length 0)).2.length = m.length ∧ (∀ j, j < m.length → 0 ≤ nth ((List.range n).foldl (fun s i => stepE l p i s) ([], List.replicate m.length 0)).2 j 0 ∧ nth ((List.range n).foldl (fun s i => stepE l p i s) ([], List.replicate m.length 0)).2 j 0 ≤ 4000 + 400 * (n : Int)) := by
    intro n
    induction n with
    | zero =>
      intro _
      have hz : ∀ j, j < m.length → nth (List.replicate m.length (0 : Int)) j 0 = 0 := fun j hj => by rw [nth_get (by simpa using hj)]; simp
      refine ⟨⟨fun j hj => ?_, 0, by simp; omega, ?_⟩, by simp, fun j hj => ?_⟩
      · simp only [List.range_zero, List.foldl_nil] at hj ⊢
        rw [hz j (by simpa using hj)]; omega
      · simp only [List.range_zero, List.foldl_nil]
        exact hz 0 (by omega)
      · simp only [List.range_zero, List.foldl_nil]
        rw [hz j hj]; omega
    | succ n ih =>
      intro hn
      obtain ⟨⟨ih1, j0, hj0, ihe⟩, ih2, ih3⟩ := ih (by omega)
      rw [List.range_succ, List.foldl_append, List.foldl_cons, List.foldl_nil]
      generalize (List.range n).foldl (fun s i => stepE l p i s) ([], List.replicate m.length 0) = s at ih1 ih2 ih3 hj0 ihe ⊢
      have hpn := hq n (by omega)
      have hok := hj n (by omega)
      unfold okJ okF at hok
      have hok := of_decide_eq_true hok
      have hrd : rd s.2 (nth p n 0) = nth s.2 (nth p n 0).toNat 0 := by
        have := rdI s.2 (nth p n 0).toNat
        rwa [Int.toNat_of_nonneg hpn.1] at this
      have hlt : (nth p n 0).toNat < m.length := by omega
      have hb := ih3 (nth p n 0).toNat hlt
      obtain ⟨m1, m2, m3⟩ := mx_le (nth s.2 (nth p n 0).toNat 0) (nth l n z51).f3
      unfold stepE
      simp only [hrd]
      generalize hM : mx (nth s.2 (nth p n 0).toNat 0) (nth l n z51).f3 = M at m1 m2 m3 ⊢
      have hMb : 0 ≤ M ∧ M ≤ 4000 + 400 * (n : Int) := by omega
      rw [w64 (x := M + (nth l n z51).f2) (by omega)]
      have hE : nth s.2 (nth p n 0).toNat 0 < M + (nth l n z51).f2 := by omega
      have hE2 : 0 ≤ M + (nth l n z51).f2 ∧ M + (nth l n z51).f2 ≤ 4000 + 400 * ((n + 1 : Nat) : Int) := by omega
      generalize M + (nth l n z51).f2 = E at hE hE2 ⊢
      rw [List.foldl_append, List.foldl_cons, List.foldl_nil]
      generalize s.1.foldl mx 0 = G at ih1 ihe ⊢
      obtain ⟨g1, g2, g3⟩ := mx_le G E
      refine ⟨⟨fun j hj => ?_, ?_⟩, by simp [ih2], fun j hj => ?_⟩
      · simp only [List.length_set] at hj
        rw [nth_set hj]
        split
        · omega
        · have := ih1 j hj; omega
      · rcases g3 with e3 | e3
        · refine ⟨j0, by simpa using hj0, ?_⟩
          rw [nth_set hj0]
          split
          · rename_i e; rw [e] at hE; omega
          · omega
        · refine ⟨(nth p n 0).toNat, by simp [ih2]; exact hlt, ?_⟩
          rw [nth_set (by omega), if_pos rfl]; omega
      · rw [nth_set (by omega)]
        have := ih3 j hj
        split <;> omega
  exact (key p.length (by omega)).1
end Go.Proofs.Ytcgpibbbkdhpeaa.M

namespace Go.Proofs.Ytcgpibbbkdhpeaa.M
open Go.RowKit Go.Proofs.Ytcgpibbbkdhpeaa.Q Go.Proofs.YtcgpibbbkdhpeaaW.PrintWords Go.Proofs.YtcgpibbbkdhpeaaW.PrintLast Go.Proofs.YtcgpibbbkdhpeaaW.Pl Classical
set_option linter.unusedSimpArgs false
set_option linter.unusedVariables false
def foldS (l : List S51) (m p : List Int) (n : Nat) : List Int × List Int := (List.range n).foldl (fun s i => stepE l p i s) ([], List.replicate m.length 0)
theorem foldS_succ (l : List S51) (m p : List Int) (n : Nat) : foldS l m p (n + 1) = stepE l p n (foldS l m p n) := by
  unfold foldS
  rw [List.range_succ, List.foldl_append, List.foldl_cons, List.foldl_nil]
/-- The end of a loom's last job so far, and its days woven. -/
def ew (l : List S51) (p E : List Int) (a : Int) : Nat → Int × Int
  | 0 => (0, 0)
  | i + 1 => if nth p i 0 = a then (nth E i 0, (ew l p E a i).2 + (nth l i z51).f2) else ew l p E a i
theorem nth_app {a b : List Int} {i : Nat} (h : i < a.length) : nth (a ++ b) i 0 = nth a i 0 := by
  rw [nth_get (by rw [List.length_append]; omega), nth_get h, List.getElem_append_left h]
theorem nth_appL {a : List Int} {v : Int} : nth (a ++ [v]) a.length 0 = v := by
  rw [nth_get (by rw [List.length_append]; simp)]
  simp
theorem inv (l : List S51) (m p E : List Int) (h : asked l m p = true) : ∀ n, n ≤ p.length → (∀ i, i < n → nth E i 0 = nth (foldS l m p n).1 i 0) →
    (foldS l m p n).1.length = n ∧ (foldS l m p n).2.length = m.length ∧ (∀ a, a < m.length → nth (foldS l m p n).2 a 0 = (ew l p E (a : Int) n).1 ∧ 0 ≤ (ew l p E (a : Int) n).2 ∧ (ew l p E (a : Int) n).2 ≤ (ew l p E (a : Int) n).1 ∧ (ew l p E (a : Int) n).1 ≤ 4000 + 400 * (n : Int)) ∧
    (∀ i, i < n → (nth l i z51).f3 + (nth l i z51).f2 ≤ nth E i 0 ∧ 0 ≤ nth E i 0 ∧ nth E i 0 ≤ 4000 + 400 * (n : Int)) := by
  obtain ⟨hl, hm, hp, hj, hq⟩ := asked_at h
  intro n
  induction n with
  | zero =>
    intro _ _
    refine ⟨rfl, by simp [foldS], fun a ha => ⟨?_, by simp [ew], by simp [ew], by simp [ew]⟩, fun i hi => absurd hi (by omega)⟩
    show nth (List.replicate m.length (0 : Int)) a 0 = 0
    rw [nth_get (by simpa using ha)]; simp
  | succ n ih =>
    intro hn hE
    rw [foldS_succ] at hE ⊢
    have h1 : (foldS l m p n).1.length = n := by
      clear ih hE
      have : ∀ k, (foldS l m p k).1.length = k := by
        intro k
        induction k with
        | zero => rfl
        | succ k ih => rw [foldS_succ]; simp [stepE, ih]
      exact this n
    have hE' : ∀ i, i < n → nth E i 0 = nth (foldS l m p n).1 i 0 := fun i hi => by
      rw [hE i (by omega)]
      unfold stepE
      exact nth_app (by omega)
    obtain ⟨_, h2, h3, h4⟩ := ih (by omega) hE'
    have hEn := hE n (by omega)
    generalize foldS l m p n = s at h1 h2 h3 hEn hE ⊢
    have hpn := hq n (by omega)
    have hok := hj n (by omega)
    unfold okJ okF at hok
    have hok := of_decide_eq_true hok
    have hrd : rd s.2 (nth p n 0) = nth s.2 (nth p n 0).toNat 0 := by
      have := rdI s.2 (nth p n 0).toNat
      rwa [Int.toNat_of_nonneg hpn.1] at this
    have hlt : (nth p n 0).toNat < m.length := by omega
    obtain ⟨b1, b2, b3, b4⟩ := h3 (nth p n 0).toNat hlt
    rw [Int.toNat_of_nonneg hpn.1] at b1 b2 b3 b4
    obtain ⟨m1, m2, m3⟩ := mx_le (nth s.2 (nth p n 0).toNat 0) (nth l n z51).f3
    unfold stepE at hEn hE ⊢
    simp only [hrd] at hEn hE ⊢
    generalize hM : mx (nth s.2 (nth p n 0).toNat 0) (nth l n z51).f3 = M at m1 m2 m3 hEn hE ⊢
    have hMb : 0 ≤ M ∧ M ≤ 4000 + 400 * (n : Int) := by omega
    have hw := w64 (x := M + (nth l n z51).f2) (by omega)
    rw [hw] at hEn ⊢
    clear hE
    rw [← h1, nth_appL, h1] at hEn
    refine ⟨by simp [h1], by simp [h2], fun a ha => ?_, fun i hi => ?_⟩
    · rw [nth_set (by omega)]
      obtain ⟨c1, c2, c3, c4⟩ := h3 a ha
      unfold ew
      by_cases e : nth p n 0 = (a : Int)
      · rw [if_pos e, if_pos (by omega)]
        rw [e] at b1 b2 b3 b4 m1
        refine ⟨hEn.symm, by dsimp only; omega, by dsimp only; omega, by dsimp only; omega⟩
      · rw [if_neg e, if_neg (by omega)]
        exact ⟨c1, c2, c3, by omega⟩
    · by_cases e : i = n
      · subst e
        rw [hEn]; omega
      · have := h4 i (by omega)
        omega
/-- All that the law asks of the ends. -/
theorem daysOf (l : List S51) (m p : List Int) (h : asked l m p = true) :
    (∀ a, a < m.length → nth (endsOf l m p).2 a 0 = (ew l p (endsOf l m p).1 (a : Int) p.length).1 ∧ 0 ≤ (ew l p (endsOf l m p).1 (a : Int) p.length).2 ∧ (ew l p (endsOf l m p).1 (a : Int) p.length).2 ≤ (ew l p (endsOf l m p).1 (a : Int) p.length).1 ∧ (ew l p (endsOf l m p).1 (a : Int) p.length).1 ≤ 7000) ∧
    (∀ i, i < p.length → (nth l i z51).f3 + (nth l i z51).f2 ≤ nth (endsOf l m p).1 i 0 ∧ 0 ≤ nth (endsOf l m p).1 i 0 ∧ nth (endsOf l m p).1 i 0 ≤ 7000) := by
  obtain ⟨hl, hm, hp, hj, hq⟩ := asked_at h
  have he : endsOf l m p = foldS l m p p.length := rfl
  obtain ⟨_, _, h3, h4⟩ := inv l m p (endsOf l m p).1 h p.length (Nat.le_refl _) (fun i hi => by rw [he])
  refine ⟨fun a ha => ?_, fun i hi => ?_⟩
  · obtain ⟨c1, c2, c3, c4⟩ := h3 a ha
    rw [← he] at c1
    exact ⟨c1, c2, c3, by omega⟩
  · obtain ⟨c1, c2, c3⟩ := h4 i hi
    exact ⟨c1, c2, by omega⟩
theorem idleYes (l : List S51) (m p : List Int) (a : Nat) (hl : l.length ≤ 1048576) (hm : m.length ≤ 1048576) (h : asked l m p = true) (ha : a < m.length) :
    Ev (fun k => impl_IdleDays.f k l m p (a : Int)) ((ew l p (endsOf l m p).1 (a : Int) p.length).1 - (ew l p (endsOf l m p).1 (a : Int) p.length).2, true) := by
  obtain ⟨h1, h2, h3⟩ := sEnds l m p h
  obtain ⟨b1, b2, b3, bj, _⟩ := asked_at h
  obtain ⟨d1, d2⟩ := daysOf l m p h
  unfold impl_IdleDays.f
  refine Ev.bind (iAsked l m p hl hm) ?_
  simp only [h, if_true, iIn, Option.bind_some, w64 (x := (m.length : Int) - 1) (by omega), show (0 ≤ (a : Int) ∧ (a : Int) ≤ (m.length : Int) - 1) by omega, and_self, decide_true, Bool.not_true]
  refine Ev.succ ?_
  simp only [impl_IdleDays.j0, Bool.false_eq_true, if_false]
  refine Ev.bind (iEnds l m p h) ?_
  simp only [if_pos (show (0 : Int) ≤ (a : Int) by omega), if_pos (show (a : Int) < ((endsOf l m p).2.length : Int) by omega), rdI]
  generalize hE : (endsOf l m p).1 = E at d1 d2
  have hb : ∀ i, i ≤ p.length → 0 ≤ (ew l p E (a : Int) i).2 ∧ (ew l p E (a : Int) i).2 ≤ 400 * (i : Int) := by
    intro i
    induction i with
    | zero => intro _; simp [ew]
    | succ i ih =>
      intro hi
      have := ih (by omega)
      have hok := bj i (by omega)
      unfold okJ okF at hok
      have hok := of_decide_eq_true hok
      unfold ew
      split
      · simp only; omega
      · omega
  obtain ⟨c1, c2, c3, c4⟩ := d1 a ha
  rw [c1]
  generalize (ew l p E (a : Int) p.length).1 = F at c3 c4 ⊢
  have main : ∀ d (i : Nat), p.length - i = d → i ≤ p.length → Ev (fun k => impl_IdleDays.l0 k l (a : Int) (F - (ew l p E (a : Int) i).2) p (p.length : Int) (i : Int)) (F - (ew l p E (a : Int) p.length).2, true) := by
    intro d
    induction d with
    | zero =>
      intro i hd hi
      obtain rfl : i = p.length := by omega
      refine Ev.succ ?_
      simp only [impl_IdleDays.l0, if_neg (show ¬ ((p.length : Int) < (p.length : Int)) by omega)]
      exact Ev.now _
    | succ d ih =>
      intro i hd hi
      have ih := ih (i + 1) (by omega) (by omega)
      have hbi := hb i (by omega)
      have hok := bj i (by omega)
      unfold okJ okF at hok
      have hok := of_decide_eq_true hok
      refine Ev.succ ?_
      by_cases e : nth p i 0 = (a : Int)
      · have hew : (ew l p E (a : Int) (i + 1)).2 = (ew l p E (a : Int) i).2 + (nth l i z51).f2 := by
          show (if nth p i 0 = (a : Int) then _ else _ : Int × Int).2 = _
          rw [if_pos e]
        have hw := w64 (x := F - (ew l p E (a : Int) i).2 - (nth l i z51).f2) (by omega)
        simp only [impl_IdleDays.l0, rdI, rd51, if_pos (show (i : Int) < (p.length : Int) by omega), if_pos (show (0 : Int) ≤ (i : Int) by omega), if_pos e, if_pos (show (i : Int) < (l.length : Int) by omega), stepI i (by omega), hw]
        rw [hew, show F - ((ew l p E (a : Int) i).2 + (nth l i z51).f2) = F - (ew l p E (a : Int) i).2 - (nth l i z51).f2 by omega] at ih
        exact ih
      · have hew : (ew l p E (a : Int) (i + 1)).2 = (ew l p E (a : Int) i).2 := by
          show (if nth p i 0 = (a : Int) then _ else _ : Int × Int).2 = _
          rw [if_neg e]
        simp only [impl_IdleDays.l0, rdI, rd51, if_pos (show (i : Int) < (p.length : Int) by omega), if_pos (show (0 : Int) ≤ (i : Int) by omega), if_neg e, stepI i (by omega)]
        rw [hew] at ih
        exact ih
  have := main p.length 0 (by omega) (by omega)
  simpa [ew] using this
/-- On a day on which all looms are free. -/
theorem beforeYes (l : List S51) (m p : List Int) (a : Int) (hl : l.length ≤ 1048576) (hm : m.length ≤ 1048576) (h : asked l m p = true) (ha : 0 ≤ a ∧ a ≤ 100000) (hF : ∀ j, j < m.length → nth (endsOf l m p).2 j 0 ≤ a) :
    ∃ r : List Int, r.length = m.length ∧ Ev (fun k => impl_FreeBefore.f k l m p a) (r, true) := by
  obtain ⟨h1, h2, h3⟩ := sEnds l m p h
  obtain ⟨b1, b2, b3, _, _⟩ := asked_at h
  unfold impl_FreeBefore.f
  try simp only [Option.bind_some]
  generalize hFF : (endsOf l m p).2 = F at *
  have main : ∀ d (i : Nat) (s : List Int), F.length - i = d → i ≤ F.length → s.length = i → ∃ r : List Int, r.length = F.length ∧ Ev (fun k => impl_FreeBefore.l0 k a s F (F.length : Int) (i : Int)) (r, true) := by
    intro d
    induction d with
    | zero =>
      intro i s hd hi hs
      obtain rfl : i = F.length := by omega
      refine ⟨s, hs, Ev.succ ?_⟩
      simp only [impl_FreeBefore.l0, if_neg (show ¬ ((F.length : Int) < (F.length : Int)) by omega)]
      exact Ev.now _
    | succ d ih =>
      intro i s hd hi hs
      have e := hF i (by omega)
      obtain ⟨r, hr, g2⟩ := ih (i + 1) (s ++ [(i : Int)]) (by omega) (by omega) (by simp; omega)
      refine ⟨r, hr, Ev.succ ?_⟩
      simp only [impl_FreeBefore.l0, rdI, if_pos (show (i : Int) < (F.length : Int) by omega), if_pos (show (0 : Int) ≤ (i : Int) by omega), if_pos e, if_pos (show s.length < 17592186044416 by omega), stepI i (by omega)]
      exact g2
  obtain ⟨r, hr, g2⟩ := main F.length 0 [] (by omega) (by omega) (by simp)
  refine ⟨r, by omega, Ev.bind (iAsked l m p hl hm) ?_⟩
  simp only [h, if_true, iIn, Option.bind_some, ha, and_self, decide_true, Bool.not_true]
  refine Ev.succ ?_
  simp only [impl_FreeBefore.j0, Bool.false_eq_true, if_false]
  refine Ev.bind (iEnds l m p h) ?_
  simp only [hFF]
  exact g2
/-- The last end: the greatest day on which a loom is free. -/
theorem lastYes (l : List S51) (m p : List Int) (hl : l.length ≤ 1048576) (hm : m.length ≤ 1048576) (h : asked l m p = true) :
    ∃ r : Int, (0 ≤ r ∧ r ≤ 7000) ∧ (∀ j, j < m.length → nth (endsOf l m p).2 j 0 ≤ r) ∧ (∀ i, i < p.length → nth (endsOf l m p).1 i 0 ≤ r) ∧ Ev (fun k => impl_LastEnd.f k l m p) (r, true) := by
  obtain ⟨h1, h2, h3⟩ := sEnds l m p h
  obtain ⟨b1, b2, b3, _, _⟩ := asked_at h
  obtain ⟨r, hr, hE⟩ := maxLoop (endsOf l m p).2 (by omega) (by omega)
  have he := isMax_one hr (endsMax l m p h)
  obtain ⟨d1, d2⟩ := daysOf l m p h
  have hmx : ∀ (E : List Int) (s : Int) (i : Nat), i < E.length → nth E i 0 ≤ E.foldl mx s := by
    have hge : ∀ (E : List Int) (s : Int), s ≤ E.foldl mx s := by
      intro E
      induction E with
      | nil => intro s; exact Int.le_refl _
      | cons x E ih => intro s; have := ih (mx s x); have := mx_le s x; simp only [List.foldl_cons]; omega
    intro E
    induction E with
    | nil => intro s i hi; simp at hi
    | cons x E ih =>
      intro s i hi
      cases i with
      | zero =>
        have := hge E (mx s x); have := mx_le s x
        show x ≤ (x :: E).foldl mx s
        simp only [List.foldl_cons]; omega
      | succ i =>
        have := ih (mx s x) i (by simpa using hi)
        exact this
  refine ⟨r, ?_, fun j hj => hr.1 j (by omega), fun i hi => by rw [he]; exact hmx _ 0 i (by omega), ?_⟩
  · obtain ⟨j, hj, e⟩ := hr.2
    have := d1 j (by omega)
    omega
  · unfold impl_LastEnd.f
    refine Ev.bind (iAsked l m p hl hm) ?_
    simp only [h, if_true]
    refine Ev.bind (iEnds l m p h) ?_
    exact Ev.bind hE (Ev.now _)
/-- The ends, in both texts. -/
theorem endsVal (l : List S51) (m p : List Int) (hl : l.length ≤ 1048576) (hm : m.length ≤ 1048576) : Ev (fun k => spec_EndsOf.f k l m p) (if asked l m p = true then ((endsOf l m p).1, true) else ([], false)) ∧ Ev (fun k => impl_EndsOf.f k l m p) (if asked l m p = true then ((endsOf l m p).1, true) else ([], false)) := by
  unfold spec_EndsOf.f impl_EndsOf.f
  by_cases h : asked l m p = true
  · obtain ⟨h1, h2, h3⟩ := sEnds l m p h
    rw [if_pos h]
    refine ⟨Ev.bind (sAsked l m p hl hm) ?_, Ev.bind (iAsked l m p hl hm) ?_⟩
    · simp only [h, if_true]
      exact Ev.bind h1 (Ev.now _)
    · simp only [h, if_true]
      exact Ev.bind (iEnds l m p h) (Ev.now _)
  · rw [if_neg h]
    refine ⟨Ev.bind (sAsked l m p hl hm) ?_, Ev.bind (iAsked l m p hl hm) ?_⟩ <;>
    · simp only [h, Bool.false_eq_true, if_false]
      exact Ev.now _
end Go.Proofs.Ytcgpibbbkdhpeaa.M

namespace Go.Proofs.Ytcgpibbbkdhpeaa.M
open Go Go.RowKit Go.Proofs.Ytcgpibbbkdhpeaa.Q Go.Proofs.YtcgpibbbkdhpeaaW.PrintWords Go.Proofs.YtcgpibbbkdhpeaaW.PrintLast Go.Proofs.YtcgpibbbkdhpeaaW.Pl Classical
set_option linter.unusedSimpArgs false
set_option linter.unusedVariables false

theorem u64w (n : Int) : IntKind.u64.wrap n = n % 18446744073709551616 := by simp [IntKind.wrap, IntKind.bits, IntKind.signed]
theorem p24 : (2 : Int) ^ 24 = 16777216 := by decide
theorem and255 (x : Int) (h0 : 0 ≤ x) (h1 : x < 16777216) : Go.bits .and .u64 x 255 = x % 256 :=
  bits_mask .u64 24 (by decide) (fun n a b => by
    rw [p24] at b
    rw [u64w]
    omega) 8 (by decide) x h0 (by
    rw [p24]
    exact h1)
/-- The bytes that are read. -/
def CodeL (l : List Int) : Prop := l.length ≤ 65536 ∧ ∀ x ∈ l, 0 ≤ x ∧ x ≤ 255
theorem code_of {l : List Int} (h : ∀ x ∈ l, (Lit.int .u8 x).wf = true) (hl : l.length ≤ 65536) : CodeL l := by
  refine ⟨hl, fun x hx => ?_⟩
  have := h x hx
  simp [Lit.wf, IntKind.wrap, IntKind.bits, IntKind.signed, IntKind.min, IntKind.max] at this
  omega
theorem rand_b (v : Int) : 0 ≤ wrap64 (Go.bits .and .u64 (IntKind.u64.wrap v / 1099511627776) 255) ∧ wrap64 (Go.bits .and .u64 (IntKind.u64.wrap v / 1099511627776) 255) ≤ 255 := by
  rw [u64w]
  have h : 0 ≤ v % 18446744073709551616 / 1099511627776 ∧ v % 18446744073709551616 / 1099511627776 < 16777216 := by omega
  generalize v % 18446744073709551616 / 1099511627776 = y at h
  rw [and255 y h.1 h.2, w64 (by omega)]
  omega
theorem next_ok {l : List Int} (hl : CodeL l) (a s : Int) (ha : 0 ≤ a ∧ a ≤ 4611686018427387904) : ∃ b t, spec_l1Cur_next.f l a s = some (b, a + 1, t) ∧ 0 ≤ b ∧ b ≤ 255 := by
  unfold spec_l1Cur_next.f
  have hlen := hl.1
  rw [w64 (x := a + 1) (by omega)]
  by_cases h : a < (l.length : Int)
  · obtain ⟨i, rfl⟩ : ∃ i : Nat, a = (i : Int) := ⟨a.toNat, by omega⟩
    have hi : i < l.length := by omega
    have hr : 0 ≤ rd l (i : Int) ∧ rd l (i : Int) ≤ 255 := by
      have : rd l (i : Int) = l[i] := by unfold rd; simp [hi]
      rw [this]
      exact hl.2 _ (List.getElem_mem hi)
    simp only [if_pos h, if_pos ha.1, if_pos (show (i : Int) + 1 ≤ (l.length : Int) by omega)]
    exact ⟨_, _, rfl, by rw [w64 (by omega)]; exact hr⟩
  · simp only [if_neg h, if_neg (show ¬ (a + 1 ≤ (l.length : Int)) by omega)]
    exact ⟨_, _, rfl, rand_b _⟩
theorem pick_ok {l : List Int} (hl : CodeL l) (a s m : Int) (n : Nat) (ha : 0 ≤ a ∧ a ≤ (n : Int)) (hn : n ≤ 1099511627776) (hm : m ≤ 1099511627776) :
    ∃ x a' t, spec_l1Cur_pick.f l a s m = some (x, a', t) ∧ (0 ≤ a' ∧ a' ≤ ((n + 2 : Nat) : Int)) ∧ 0 ≤ x ∧ (1 ≤ m → x < m) ∧ (m ≤ 1 → x = 0) := by
  unfold spec_l1Cur_pick.f
  by_cases h : m ≤ 1
  · exact ⟨0, a, s, by rw [if_pos h], by omega, by omega, by omega, fun _ => rfl⟩
  · rw [if_neg h]
    obtain ⟨b, t, h1, hb⟩ := next_ok hl a s (by omega)
    rw [h1]
    simp only [Option.bind_some, if_neg (show ¬ (m = 0) by omega)]
    by_cases h2 : m > 200
    · obtain ⟨b2, t2, h3, hb2⟩ := next_ok hl (a + 1) t (by omega)
      simp only [if_pos h2, h3, Option.bind_some]
      rw [w64 (x := b * 256) (by omega), w64 (x := b * 256 + b2) (by omega), Int.tmod_eq_emod_of_nonneg (by omega)]
      exact ⟨_, _, _, rfl, by omega, Int.emod_nonneg _ (by omega), fun _ => Int.emod_lt_of_pos _ (by omega), fun h4 => absurd h4 h⟩
    · simp only [if_neg h2]
      rw [Int.tmod_eq_emod_of_nonneg (by omega)]
      exact ⟨_, _, _, rfl, by omega, Int.emod_nonneg _ (by omega), fun _ => Int.emod_lt_of_pos _ (by omega), fun h4 => absurd h4 h⟩
theorem among_ok {l : List Int} (hl : CodeL l) (a s : Int) (L : List Int) (n : Nat) (ha : 0 ≤ a ∧ a ≤ (n : Int)) (hn : n ≤ 1099511627776) (hL : 1 ≤ L.length ∧ L.length ≤ 1099511627776) :
    ∃ x a' t, spec_l1Cur_among.f l a s L = some (x, a', t) ∧ (0 ≤ a' ∧ a' ≤ ((n + 2 : Nat) : Int)) ∧ x ∈ L := by
  obtain ⟨x, a', t, h1, h2, h3, h4, _⟩ := pick_ok hl a s (L.length : Int) n ha hn (by omega)
  have h5 := h4 (by omega)
  unfold spec_l1Cur_among.f
  rw [h1]
  simp only [Option.bind_some, if_pos h3, if_pos h5]
  refine ⟨_, _, _, rfl, h2, ?_⟩
  have hx : x.toNat < L.length := by omega
  have : rd L x = L[x.toNat] := by unfold rd; simp [hx]
  rw [this]
  exact List.getElem_mem hx
theorem one_ok {l : List Int} (hl : CodeL l) (a s m : Int) (n : Nat) (ha : 0 ≤ a ∧ a ≤ (n : Int)) (hn : n ≤ 1099511627776) (hm : m ≤ 1099511627776) :
    ∃ b a' t, spec_l1Cur_one.f l a s m = some (b, a', t) ∧ (0 ≤ a' ∧ a' ≤ ((n + 2 : Nat) : Int)) := by
  obtain ⟨x, a', t, h1, h2, _⟩ := pick_ok hl a s m n ha hn hm
  unfold spec_l1Cur_one.f
  rw [h1]
  exact ⟨_, _, _, rfl, h2⟩
end Go.Proofs.Ytcgpibbbkdhpeaa.M

namespace Go.Proofs.Ytcgpibbbkdhpeaa.M
open Go.RowKit Go.Proofs.Ytcgpibbbkdhpeaa.Q Go.Proofs.YtcgpibbbkdhpeaaW.PrintWords Go.Proofs.YtcgpibbbkdhpeaaW.PrintLast Go.Proofs.YtcgpibbbkdhpeaaW.Pl Classical
set_option linter.unusedSimpArgs false
set_option linter.unusedVariables false
theorem drawJobs1 {l : List Int} (hl : CodeL l) : ∀ d (x : List S51) (a s : Int) (n : Nat), x.length ≤ 20 → 20 - x.length = d → (0 ≤ a ∧ a ≤ (n : Int)) → n + 2 * d ≤ 1000000 → ∃ r a' s', Ev (fun k => spec_l1Cur_jobs.l1 k x l a s) (r, a', s') ∧ r.length ≤ 20 ∧ 0 ≤ a' ∧ a' ≤ ((n + 2 * (d + 1) : Nat) : Int) := by
  intro d
  induction d with
  | zero =>
    intro x a s n hx hd ha hn
    obtain ⟨v, a1, s1, h1, ha1, hv0, hv1, _⟩ := pick_ok hl a s 2 n ha (by omega) (by omega)
    have hv := hv1 (by omega)
    refine ⟨x, a1, s1, Ev.succ ?_, hx, by omega, by omega⟩
    simp only [spec_l1Cur_jobs.l1, h1, Option.bind_some, w64 (x := 6 + v) (by omega), if_neg (show ¬ ((x.length : Int) < 6 + v) by omega)]
    exact Ev.now _
  | succ d ih =>
    intro x a s n hx hd ha hn
    obtain ⟨v, a1, s1, h1, ha1, hv0, hv1, _⟩ := pick_ok hl a s 2 n ha (by omega) (by omega)
    have hv := hv1 (by omega)
    by_cases hc : (x.length : Int) < 6 + v
    · obtain ⟨r, a', s', h2, hr, ha2, ha3⟩ := ih (x ++ [(⟨wrap64 (30 + (x.length : Int)), 50, 7, 0, 9⟩ : S51)]) a1 s1 (n + 2) (by simp; omega) (by simp; omega) (by omega) (by omega)
      refine ⟨r, a', s', Ev.succ ?_, hr, ha2, by omega⟩
      simp only [spec_l1Cur_jobs.l1, h1, Option.bind_some, w64 (x := 6 + v) (by omega), if_pos hc, if_pos (show x.length < 3518437208883 by omega)]
      exact h2
    · refine ⟨x, a1, s1, Ev.succ ?_, hx, by omega, by omega⟩
      simp only [spec_l1Cur_jobs.l1, h1, Option.bind_some, w64 (x := 6 + v) (by omega), if_neg hc]
      exact Ev.now _
theorem drawJobs0 {l : List Int} (hl : CodeL l) : ∀ d (i : Nat) (x : List S51) (a s : Int) (n : Nat), 7 - i = d → 1 ≤ i → i ≤ 7 → x.length ≤ i → (0 ≤ a ∧ a ≤ (n : Int)) → n + 10 * d + 100 ≤ 1000000 → ∃ r a' s', Ev (fun k => spec_l1Cur_jobs.l0 k x (i : Int) l a s) (r, a', s') ∧ r.length ≤ 20 ∧ 0 ≤ a' ∧ a' ≤ ((n + 10 * d + 100 : Nat) : Int) := by
  intro d
  induction d with
  | zero =>
    intro i x a s n hd h1 hi hx ha hn
    obtain rfl : i = 7 := by omega
    obtain ⟨v, a1, s1, e1, ha1, hv0, hv1, _⟩ := pick_ok hl a s 32 n ha (by omega) (by omega)
    by_cases v0 : v = 0
    · obtain ⟨y1, a2, s2, e2, ha2, _⟩ := among_ok hl a1 s1 [0, 4, 99, 100] (n + 2) (by omega) (by omega) (by simp)
      obtain ⟨y2, a3, s3, e3, ha3, _⟩ := among_ok hl a2 s2 [0, 1, 501] (n + 4) (by omega) (by omega) (by simp)
      obtain ⟨y3, a4, s4, e4, ha4, _⟩ := among_ok hl a3 s3 [1, 0, 401] (n + 6) (by omega) (by omega) (by simp)
      obtain ⟨y4, a5, s5, e5, ha5, _⟩ := among_ok hl a4 s4 [0, 4000, 4001] (n + 8) (by omega) (by omega) (by simp)
      obtain ⟨y5, a6, s6, e6, ha6, _⟩ := among_ok hl a5 s5 [4000, 5] (n + 10) (by omega) (by omega) (by simp)
      refine ⟨_, a6, s6, Ev.succ ?_, (?_ : (x ++ [(⟨y1, y2, y3, y4, y5⟩ : S51)]).length ≤ 20), by omega, by omega⟩
      · simp only [spec_l1Cur_jobs.l0, if_neg (show ¬ (((7 : Nat) : Int) < 7) by omega), e1, e2, e3, e4, e5, e6, Option.bind_some, if_pos v0, if_pos (show x.length < 3518437208883 by omega)]
        exact Ev.now _
      · simp; omega
    · by_cases v1 : v = 1
      · obtain ⟨r, a', s', e2, hr, b1, b2⟩ := drawJobs1 hl (20 - x.length) x a1 s1 (n + 2) (by omega) rfl (by omega) (by omega)
        refine ⟨r, a', s', Ev.succ ?_, hr, b1, by omega⟩
        simp only [spec_l1Cur_jobs.l0, if_neg (show ¬ (((7 : Nat) : Int) < 7) by omega), e1, Option.bind_some, if_neg v0, if_pos v1]
        exact e2
      · refine ⟨x, a1, s1, Ev.succ ?_, by omega, by omega, by omega⟩
        simp only [spec_l1Cur_jobs.l0, if_neg (show ¬ (((7 : Nat) : Int) < 7) by omega), e1, Option.bind_some, if_neg v0, if_neg v1]
        exact Ev.now _
  | succ d ih =>
    intro i x a s n hd h1 hi hx ha hn
    obtain ⟨b, a1, s1, e1, ha1⟩ := one_ok hl a s 2 n ha (by omega) (by omega)
    have hlt : (i : Int) < 7 := by omega
    cases b with
    | true =>
      obtain ⟨r, a', s', e2, hr, b1, b2⟩ := ih (i + 1) x a1 s1 (n + 2) (by omega) (by omega) (by omega) (by omega) (by omega) (by omega)
      refine ⟨r, a', s', Ev.succ ?_, hr, b1, by omega⟩
      simp only [spec_l1Cur_jobs.l0, if_pos hlt, e1, Option.bind_some, if_true, stepI i (by omega)]
      exact e2
    | false =>
      obtain ⟨y1, a2, s2, e2, ha2, _⟩ := among_ok hl a1 s1 [0, 0, 10, 30, 100] (n + 2) (by omega) (by omega) (by simp)
      obtain ⟨y2, a3, s3, e3, ha3, _⟩ := among_ok hl a2 s2 [50, 90, 150, 300] (n + 4) (by omega) (by omega) (by simp)
      obtain ⟨y3, a4, s4, e4, ha4, _⟩ := among_ok hl a3 s3 [5, 20, 60, 200] (n + 6) (by omega) (by omega) (by simp)
      obtain ⟨y4, a5, s5, e5, ha5, _⟩ := among_ok hl a4 s4 [0, 20, 70, 300] (n + 8) (by omega) (by omega) (by simp)
      obtain ⟨r, a', s', e6, hr, b1, b2⟩ := ih (i + 1) (x ++ [(⟨wrap64 (4 * (i : Int)), y2, y3, y1, wrap64 (y1 + y4)⟩ : S51)]) a5 s5 (n + 10) (by omega) (by omega) (by omega) (by simp; omega) (by omega) (by omega)
      refine ⟨r, a', s', Ev.succ ?_, hr, b1, by omega⟩
      simp only [spec_l1Cur_jobs.l0, if_pos hlt, e1, e2, e3, e4, e5, Option.bind_some, Bool.false_eq_true, if_false, if_pos (show x.length < 3518437208883 by omega), stepI i (by omega)]
      exact e6
theorem drawJobs {l : List Int} (hl : CodeL l) : ∃ r a' s', Ev (fun k => spec_l1Cur_jobs.f k l 0 0) (r, a', s') ∧ r.length ≤ 20 ∧ 0 ≤ a' ∧ a' ≤ 200 := by
  obtain ⟨r, a', s', e, h1, h2, h3⟩ := drawJobs0 hl 6 1 [] 0 0 0 (by omega) (by omega) (by omega) (by simp) (by omega) (by omega)
  exact ⟨r, a', s', e, h1, h2, by omega⟩
theorem drawLooms0 {l : List Int} (hl : CodeL l) : ∀ (d : Nat) (x : List Int) (a s : Int) (n : Nat), x.length + d ≤ 20 → (0 ≤ a ∧ a ≤ (n : Int)) → n + 2 * d + 10 ≤ 1000000 → ∃ r a' s', Ev (fun k => spec_l1Cur_loomList.l0 k x (d : Int) l a s) (r, a', s') ∧ r.length ≤ 20 ∧ 0 ≤ a' ∧ a' ≤ ((n + 2 * d + 10 : Nat) : Int) := by
  intro d
  induction d with
  | zero =>
    intro x a s n hx ha hn
    obtain ⟨b, a1, s1, e1, ha1⟩ := one_ok hl a s 24 n ha (by omega) (by omega)
    cases b with
    | false =>
      refine ⟨x, a1, s1, Ev.succ ?_, by omega, by omega, by omega⟩
      simp only [spec_l1Cur_loomList.l0, if_neg (show ¬ (((0 : Nat) : Int) > 0) by omega), e1, Option.bind_some, Bool.false_eq_true, if_false]
      exact Ev.now _
    | true =>
      by_cases h0 : (x.length : Int) > 0
      · obtain ⟨y, a2, s2, e2, ha2, _⟩ := among_ok hl a1 s1 [0, 501] (n + 2) (by omega) (by omega) (by simp)
        refine ⟨_, a2, s2, Ev.succ ?_, (?_ : (x.set (0 : Int).toNat y).length ≤ 20), by omega, by omega⟩
        · simp only [spec_l1Cur_loomList.l0, if_neg (show ¬ (((0 : Nat) : Int) > 0) by omega), e1, e2, Option.bind_some, if_true, if_pos h0, if_pos (show 0 < (x.length : Int) from h0)]
          exact Ev.now _
        · rw [List.length_set]; omega
      · refine ⟨x, a1, s1, Ev.succ ?_, by omega, by omega, by omega⟩
        simp only [spec_l1Cur_loomList.l0, if_neg (show ¬ (((0 : Nat) : Int) > 0) by omega), e1, Option.bind_some, if_true, if_neg h0]
        exact Ev.now _
  | succ d ih =>
    intro x a s n hx ha hn
    obtain ⟨y, a1, s1, e1, ha1, _⟩ := among_ok hl a s [100, 160, 300, 500, 500, 80] n (by omega) (by omega) (by simp)
    obtain ⟨r, a', s', e2, hr, b1, b2⟩ := ih (x ++ [y]) a1 s1 (n + 2) (by simp; omega) (by omega) (by omega)
    refine ⟨r, a', s', Ev.succ ?_, hr, b1, by omega⟩
    have hw : wrap64 (((d + 1 : Nat) : Int) - 1) = (d : Int) := by rw [w64 (by omega)]; omega
    simp only [spec_l1Cur_loomList.l0, if_pos (show (((d + 1 : Nat) : Int) > 0) by omega), e1, Option.bind_some, if_pos (show x.length < 17592186044416 by omega), hw]
    exact e2
theorem drawLooms {l : List Int} (hl : CodeL l) (a s : Int) (n : Nat) (ha : 0 ≤ a ∧ a ≤ (n : Int)) (hn : n ≤ 900000) : ∃ r a' s', Ev (fun k => spec_l1Cur_loomList.f k l a s) (r, a', s') ∧ r.length ≤ 20 ∧ 0 ≤ a' ∧ a' ≤ ((n + 100 : Nat) : Int) := by
  obtain ⟨y, a1, s1, e1, ha1, hy⟩ := among_ok hl a s [1, 2, 2, 3, 3, 4, 0, 2] n ha (by omega) (by simp)
  have hb : 0 ≤ y ∧ y ≤ 4 := by
    simp only [List.mem_cons, List.not_mem_nil, or_false] at hy
    omega
  obtain ⟨m, rfl⟩ : ∃ m : Nat, y = (m : Int) := ⟨y.toNat, by omega⟩
  obtain ⟨r, a', s', e2, hr, b1, b2⟩ := drawLooms0 hl m [] a1 s1 (n + 2) (by simp; omega) (by omega) (by omega)
  refine ⟨r, a', s', ?_, hr, b1, by omega⟩
  unfold spec_l1Cur_loomList.f
  simp only [e1, Option.bind_some]
  exact e2
theorem drawPlan0 {l : List Int} (hl : CodeL l) (jobs : List S51) (looms : List Int) (hj : jobs.length ≤ 20) (hm : looms.length ≤ 20) : ∀ d (i : Nat) (x : List Int) (a s : Int) (n : Nat), jobs.length - i = d → i ≤ jobs.length → x.length ≤ i → (0 ≤ a ∧ a ≤ (n : Int)) → n + 2 * d + 10 ≤ 1000000 → ∃ r a' s', Ev (fun k => spec_l1Cur_loomPlan.l0 k jobs looms x (i : Int) l a s) (r, a', s') ∧ r.length ≤ 30 ∧ 0 ≤ a' ∧ a' ≤ ((n + 2 * d + 10 : Nat) : Int) := by
  intro d
  induction d with
  | zero =>
    intro i x a s n hd hi hx ha hn
    obtain rfl : i = jobs.length := by omega
    obtain ⟨b, a1, s1, e1, ha1⟩ := one_ok hl a s 16 n ha (by omega) (by omega)
    cases b with
    | false =>
      refine ⟨x, a1, s1, Ev.succ ?_, by omega, by omega, by omega⟩
      simp only [spec_l1Cur_loomPlan.l0, if_neg (show ¬ ((jobs.length : Int) < (jobs.length : Int)) by omega), e1, Option.bind_some, Bool.false_eq_true, if_false]
      exact Ev.now _
    | true =>
      obtain ⟨y, a2, s2, e2, ha2, _⟩ := among_ok hl a1 s1 [0, (-1), 3] (n + 2) (by omega) (by omega) (by simp)
      refine ⟨_, a2, s2, Ev.succ ?_, (?_ : (x ++ [y]).length ≤ 30), by omega, by omega⟩
      · simp only [spec_l1Cur_loomPlan.l0, if_neg (show ¬ ((jobs.length : Int) < (jobs.length : Int)) by omega), e1, e2, Option.bind_some, if_true, if_pos (show x.length < 17592186044416 by omega)]
        exact Ev.now _
      · simp; omega
  | succ d ih =>
    intro i x a s n hd hi hx ha hn
    have hlt : (i : Int) < (jobs.length : Int) := by omega
    obtain ⟨v, a1, s1, e1, ha1, hv0, hv1, hv2⟩ := pick_ok hl a s (mx 1 (looms.length : Int)) n ha (by omega) (by unfold mx; split <;> omega)
    have inner : ∀ e (j : Nat) (v : Int), looms.length - j = e → j ≤ looms.length → 0 ≤ v → (0 < looms.length → v < (looms.length : Int)) → ∃ r a' s', Ev (fun k => spec_l1Cur_loomPlan.l1 k jobs looms x (i : Int) v (j : Int) l a1 s1) (r, a', s') ∧ r.length ≤ 30 ∧ 0 ≤ a' ∧ a' ≤ ((n + 2 * (d + 1) + 10 : Nat) : Int) := by
      intro e
      have go : ∀ v : Int, ∃ r a' s', Ev (fun k => if x.length < 17592186044416 then spec_l1Cur_loomPlan.l0 k jobs looms (x ++ [v]) (wrap64 ((i : Int) + 1)) l a1 s1 else none) (r, a', s') ∧ r.length ≤ 30 ∧ 0 ≤ a' ∧ a' ≤ ((n + 2 * (d + 1) + 10 : Nat) : Int) := by
        intro v
        obtain ⟨r, a', s', e2, hr, b1, b2⟩ := ih (i + 1) (x ++ [v]) a1 s1 (n + 2) (by omega) (by omega) (by simp; omega) (by omega) (by omega)
        refine ⟨r, a', s', ?_, hr, b1, by omega⟩
        simp only [if_pos (show x.length < 17592186044416 by omega), stepI i (by omega)]
        exact e2
      induction e with
      | zero =>
        intro j v hj2 hj3 hv _
        obtain rfl : j = looms.length := by omega
        obtain ⟨r, a', s', e2, h3⟩ := go v
        refine ⟨r, a', s', Ev.succ ?_, h3⟩
        simp only [spec_l1Cur_loomPlan.l1, if_neg (show ¬ ((looms.length : Int) < (looms.length : Int)) by omega)]
        exact e2
      | succ e ih2 =>
        intro j v hj2 hj3 hv hvm
        have hvl := hvm (by omega)
        by_cases hw : rd looms v < (rd_T51 jobs (i : Int)).f1
        · have hmod : 0 ≤ Int.tmod (v + 1) (looms.length : Int) ∧ Int.tmod (v + 1) (looms.length : Int) < (looms.length : Int) := ⟨Int.tmod_nonneg _ (by omega), Int.tmod_lt_of_pos _ (by omega)⟩
          obtain ⟨r, a', s', e2, h3⟩ := ih2 (j + 1) (Int.tmod (v + 1) (looms.length : Int)) (by omega) (by omega) hmod.1 (fun _ => hmod.2)
          refine ⟨r, a', s', Ev.succ ?_, h3⟩
          simp only [spec_l1Cur_loomPlan.l1, if_pos (show (j : Int) < (looms.length : Int) by omega), if_pos hv, if_pos hvl, if_pos (show (0 : Int) ≤ (i : Int) by omega), if_pos hlt, if_pos hw, if_neg (show ¬ ((looms.length : Int) = 0) by omega), w64 (x := v + 1) (by omega), stepI j (by omega)]
          exact e2
        · obtain ⟨r, a', s', e2, h3⟩ := go v
          refine ⟨r, a', s', Ev.succ ?_, h3⟩
          simp only [spec_l1Cur_loomPlan.l1, if_pos (show (j : Int) < (looms.length : Int) by omega), if_pos hv, if_pos hvl, if_pos (show (0 : Int) ≤ (i : Int) by omega), if_pos hlt, if_neg hw]
          exact e2
    obtain ⟨r, a', s', e2, h3⟩ := inner looms.length 0 v (by omega) (by omega) hv0 (fun hp => by
      have h4 : mx 1 (looms.length : Int) = (looms.length : Int) := by unfold mx; split <;> omega
      rw [h4] at hv1
      exact hv1 (by omega))
    refine ⟨r, a', s', Ev.succ ?_, h3⟩
    simp only [spec_l1Cur_loomPlan.l0, if_pos hlt, most, e1, Option.bind_some]
    exact e2
theorem drawPlan {l : List Int} (hl : CodeL l) (jobs : List S51) (looms : List Int) (hj : jobs.length ≤ 20) (hm : looms.length ≤ 20) (a s : Int) (n : Nat) (ha : 0 ≤ a ∧ a ≤ (n : Int)) (hn : n ≤ 900000) : ∃ r a' s', Ev (fun k => spec_l1Cur_loomPlan.f k l a s jobs looms) (r, a', s') ∧ r.length ≤ 30 ∧ 0 ≤ a' ∧ a' ≤ ((n + 100 : Nat) : Int) := by
  obtain ⟨r, a', s', e, h1, h2, h3⟩ := drawPlan0 hl jobs looms hj hm jobs.length 0 [] a s n (by omega) (by omega) (by simp) ha (by omega)
  exact ⟨r, a', s', e, h1, h2, by omega⟩
theorem drawAll {l : List Int} (hl : CodeL l) : ∃ (jobs : List S51) (looms plan : List Int) (day1 day2 : Int), jobs.length ≤ 20 ∧ looms.length ≤ 20 ∧ plan.length ≤ 30 ∧ Ev (fun k => spec_DrawEndsOf.f k l) (jobs, looms, plan) ∧ Ev (fun k => spec_DrawIdleDays.f k l) (jobs, looms, plan, day1) ∧ Ev (fun k => spec_DrawFreeBefore.f k l) (jobs, looms, plan, day2) := by
  obtain ⟨jobs, a1, s1, e1, l1, b1, b1'⟩ := drawJobs hl
  obtain ⟨looms, a2, s2, e2, l2, b2, b2'⟩ := drawLooms hl a1 s1 200 (by omega) (by omega)
  obtain ⟨plan, a3, s3, e3, l3, b3, b3'⟩ := drawPlan hl jobs looms l1 l2 a2 s2 300 (by omega) (by omega)
  obtain ⟨v1, a4, s4, e4, b4, _⟩ := pick_ok hl a3 s3 4 400 (by omega) (by omega) (by omega)
  obtain ⟨v2, a5, s5, e5, b5, _⟩ := pick_ok hl a4 s4 9 402 (by omega) (by omega) (by omega)
  obtain ⟨v3, a6, s6, e6, b6, _⟩ := among_ok hl a3 s3 [0, 20, 60, 200, 100000, 100001, (-1)] 400 (by omega) (by omega) (by simp)
  refine ⟨jobs, looms, plan, wrap64 (v1 - wrap64 (Int.tdiv v2 8)), v3, l1, l2, l3, ?_, ?_, ?_⟩
  · unfold spec_DrawEndsOf.f spec_DrawIsLoomPlan.f
    refine Ev.bind (a := (jobs, looms, plan)) (Ev.bind e1 (Ev.bind e2 (Ev.bind e3 (Ev.now _)))) (Ev.now _)
  · unfold spec_DrawIdleDays.f
    refine Ev.bind e1 (Ev.bind e2 (Ev.bind e3 ?_))
    simp only [e4, e5, Option.bind_some]
    exact Ev.now _
  · unfold spec_DrawFreeBefore.f
    refine Ev.bind e1 (Ev.bind e2 (Ev.bind e3 ?_))
    simp only [e6, Option.bind_some]
    exact Ev.now _
end Go.Proofs.Ytcgpibbbkdhpeaa.M

namespace Go.Proofs.Ytcgpibbbkdhpeaa.M
open Go.RowKit Go.Proofs.Ytcgpibbbkdhpeaa.Q Go.Proofs.YtcgpibbbkdhpeaaW.PrintWords Go.Proofs.YtcgpibbbkdhpeaaW.PrintLast Go.Proofs.YtcgpibbbkdhpeaaW.Pl Classical
set_option linter.unusedSimpArgs false
set_option linter.unusedVariables false

theorem idleBoth (l : List S51) (m p : List Int) (a : Int) (hl : l.length ≤ 1048576) (hm : m.length ≤ 1048576) : ∃ q : Int × Bool, Ev (fun k => spec_IdleDays.f k l m p a) q ∧ Ev (fun k => impl_IdleDays.f k l m p a) q := by
  unfold spec_IdleDays.f impl_IdleDays.f
  by_cases h : asked l m p = true
  · obtain ⟨h1, h2, h3⟩ := sEnds l m p h
    obtain ⟨b1, b2, b3, _, _⟩ := asked_at h
    by_cases ha : 0 ≤ a ∧ a ≤ (m.length : Int) - 1
    · have main : ∀ d (i : Nat) (s : Int), p.length - i = d → i ≤ p.length → ∃ q : Int × Bool, Ev (fun k => spec_IdleDays.l0 k l p a s (i : Int)) q ∧ Ev (fun k => impl_IdleDays.l0 k l a s p (p.length : Int) (i : Int)) q := by
        intro d
        induction d with
        | zero =>
          intro i s hd hi
          have hil : i = p.length := by omega
          subst hil
          refine ⟨(s, true), Ev.succ ?_, Ev.succ ?_⟩
          · simp only [spec_IdleDays.l0, if_neg (show ¬ ((p.length : Int) < (p.length : Int)) by omega)]
            exact Ev.now _
          · simp only [impl_IdleDays.l0, if_neg (show ¬ ((p.length : Int) < (p.length : Int)) by omega)]
            exact Ev.now _
        | succ d ih =>
          intro i s hd hi
          by_cases e : nth p i 0 = a
          · obtain ⟨q, g1, g2⟩ := ih (i + 1) (wrap64 (s - (nth l i z51).f2)) (by omega) (by omega)
            refine ⟨q, Ev.succ ?_, Ev.succ ?_⟩
            · simp only [spec_IdleDays.l0, rdI, rd51, if_pos (show (i : Int) < (p.length : Int) by omega), if_pos (show (0 : Int) ≤ (i : Int) by omega), if_pos e, if_pos (show (i : Int) < (l.length : Int) by omega), stepI i (by omega)]
              exact g1
            · simp only [impl_IdleDays.l0, rdI, rd51, if_pos (show (i : Int) < (p.length : Int) by omega), if_pos (show (0 : Int) ≤ (i : Int) by omega), if_pos e, if_pos (show (i : Int) < (l.length : Int) by omega), stepI i (by omega)]
              exact g2
          · obtain ⟨q, g1, g2⟩ := ih (i + 1) s (by omega) (by omega)
            refine ⟨q, Ev.succ ?_, Ev.succ ?_⟩
            · simp only [spec_IdleDays.l0, rdI, rd51, if_pos (show (i : Int) < (p.length : Int) by omega), if_pos (show (0 : Int) ≤ (i : Int) by omega), if_neg e, stepI i (by omega)]
              exact g1
            · simp only [impl_IdleDays.l0, rdI, rd51, if_pos (show (i : Int) < (p.length : Int) by omega), if_pos (show (0 : Int) ≤ (i : Int) by omega), if_neg e, stepI i (by omega)]
              exact g2
      obtain ⟨q, g1, g2⟩ := main p.length 0 (rd (endsOf l m p).2 a) (by omega) (by omega)
      refine ⟨q, Ev.bind (sAsked l m p hl hm) ?_, Ev.bind (iAsked l m p hl hm) ?_⟩
      · simp only [h, if_true, l1In, Option.bind_some, w64 (x := (m.length : Int) - 1) (by omega), ha, and_self, decide_true, Bool.not_true]
        refine Ev.succ ?_
        simp only [spec_IdleDays.j0, Bool.false_eq_true, if_false]
        refine Ev.bind h1 ?_
        simp only [if_pos ha.1, if_pos (show a < ((endsOf l m p).2.length : Int) by omega)]
        exact g1
      · simp only [h, if_true, iIn, Option.bind_some, w64 (x := (m.length : Int) - 1) (by omega), ha, and_self, decide_true, Bool.not_true]
        refine Ev.succ ?_
        simp only [impl_IdleDays.j0, Bool.false_eq_true, if_false]
        refine Ev.bind (iEnds l m p h) ?_
        simp only [if_pos ha.1, if_pos (show a < ((endsOf l m p).2.length : Int) by omega)]
        exact g2
    · refine ⟨(0, false), Ev.bind (sAsked l m p hl hm) ?_, Ev.bind (iAsked l m p hl hm) ?_⟩
      · simp only [h, if_true, l1In, Option.bind_some, w64 (x := (m.length : Int) - 1) (by omega), ha, decide_false, Bool.not_false]
        refine Ev.succ ?_
        simp only [spec_IdleDays.j0, if_true]
        exact Ev.now _
      · simp only [h, if_true, iIn, Option.bind_some, w64 (x := (m.length : Int) - 1) (by omega), ha, decide_false, Bool.not_false]
        refine Ev.succ ?_
        simp only [impl_IdleDays.j0, if_true]
        exact Ev.now _
  · refine ⟨(0, false), Ev.bind (sAsked l m p hl hm) ?_, Ev.bind (iAsked l m p hl hm) ?_⟩
    · simp only [h, Bool.false_eq_true, if_false]
      refine Ev.succ ?_
      simp only [spec_IdleDays.j0, if_true]
      exact Ev.now _
    · simp only [h, Bool.false_eq_true, if_false]
      refine Ev.succ ?_
      simp only [impl_IdleDays.j0, if_true]
      exact Ev.now _
end Go.Proofs.Ytcgpibbbkdhpeaa.M

namespace Go.Proofs.Ytcgpibbbkdhpeaa.M
open Go.RowKit Go.Proofs.Ytcgpibbbkdhpeaa.Q Go.Proofs.YtcgpibbbkdhpeaaW.PrintWords Go.Proofs.YtcgpibbbkdhpeaaW.PrintLast Go.Proofs.YtcgpibbbkdhpeaaW.Pl Classical
set_option linter.unusedSimpArgs false
set_option linter.unusedVariables false

theorem beforeBoth (l : List S51) (m p : List Int) (a : Int) (hl : l.length ≤ 1048576) (hm : m.length ≤ 1048576) : ∃ q : List Int × Bool, q.1.length ≤ 1048576 ∧ Ev (fun k => spec_FreeBefore.f k l m p a) q ∧ Ev (fun k => impl_FreeBefore.f k l m p a) q := by
  unfold spec_FreeBefore.f impl_FreeBefore.f
  simp only [Option.bind_some]
  by_cases h : asked l m p = true
  · obtain ⟨h1, h2, h3⟩ := sEnds l m p h
    obtain ⟨b1, b2, b3, _, _⟩ := asked_at h
    by_cases ha : 0 ≤ a ∧ a ≤ 100000
    · generalize hF : (endsOf l m p).2 = F at *
      have main : ∀ d (i : Nat) (s : List Int), F.length - i = d → i ≤ F.length → s.length ≤ i → ∃ q : List Int × Bool, q.1.length ≤ 1048576 ∧ Ev (fun k => spec_FreeBefore.l0 k a s F (i : Int)) q ∧ Ev (fun k => impl_FreeBefore.l0 k a s F (F.length : Int) (i : Int)) q := by
        intro d
        induction d with
        | zero =>
          intro i s hd hi hs
          have hil : i = F.length := by omega
          subst hil
          refine ⟨(s, true), by simp only; omega, Ev.succ ?_, Ev.succ ?_⟩
          · simp only [spec_FreeBefore.l0, if_neg (show ¬ ((F.length : Int) < (F.length : Int)) by omega)]
            exact Ev.now _
          · simp only [impl_FreeBefore.l0, if_neg (show ¬ ((F.length : Int) < (F.length : Int)) by omega)]
            exact Ev.now _
        | succ d ih =>
          intro i s hd hi hs
          by_cases e : nth F i 0 ≤ a
          · obtain ⟨q, hq, g1, g2⟩ := ih (i + 1) (s ++ [(i : Int)]) (by omega) (by omega) (by simp; omega)
            refine ⟨q, hq, Ev.succ ?_, Ev.succ ?_⟩
            · simp only [spec_FreeBefore.l0, rdI, if_pos (show (i : Int) < (F.length : Int) by omega), if_pos (show (0 : Int) ≤ (i : Int) by omega), if_pos e, if_pos (show s.length < 17592186044416 by omega), stepI i (by omega)]
              exact g1
            · simp only [impl_FreeBefore.l0, rdI, if_pos (show (i : Int) < (F.length : Int) by omega), if_pos (show (0 : Int) ≤ (i : Int) by omega), if_pos e, if_pos (show s.length < 17592186044416 by omega), stepI i (by omega)]
              exact g2
          · obtain ⟨q, hq, g1, g2⟩ := ih (i + 1) s (by omega) (by omega) (by omega)
            refine ⟨q, hq, Ev.succ ?_, Ev.succ ?_⟩
            · simp only [spec_FreeBefore.l0, rdI, if_pos (show (i : Int) < (F.length : Int) by omega), if_pos (show (0 : Int) ≤ (i : Int) by omega), if_neg e, stepI i (by omega)]
              exact g1
            · simp only [impl_FreeBefore.l0, rdI, if_pos (show (i : Int) < (F.length : Int) by omega), if_pos (show (0 : Int) ≤ (i : Int) by omega), if_neg e, stepI i (by omega)]
              exact g2
      obtain ⟨q, hq, g1, g2⟩ := main F.length 0 [] (by omega) (by omega) (by simp)
      refine ⟨q, hq, Ev.bind (sAsked l m p hl hm) ?_, Ev.bind (iAsked l m p hl hm) ?_⟩
      · simp only [h, if_true, l1In, Option.bind_some, ha, and_self, decide_true, Bool.not_true]
        refine Ev.succ ?_
        simp only [spec_FreeBefore.j0, Bool.false_eq_true, if_false]
        refine Ev.bind h1 ?_
        simp only [hF]
        exact g1
      · simp only [h, if_true, iIn, Option.bind_some, ha, and_self, decide_true, Bool.not_true]
        refine Ev.succ ?_
        simp only [impl_FreeBefore.j0, Bool.false_eq_true, if_false]
        refine Ev.bind (iEnds l m p h) ?_
        simp only [hF]
        exact g2
    · refine ⟨([], false), by simp, Ev.bind (sAsked l m p hl hm) ?_, Ev.bind (iAsked l m p hl hm) ?_⟩
      · simp only [h, if_true, l1In, Option.bind_some, ha, decide_false, Bool.not_false]
        refine Ev.succ ?_
        simp only [spec_FreeBefore.j0, if_true]
        exact Ev.now _
      · simp only [h, if_true, iIn, Option.bind_some, ha, decide_false, Bool.not_false]
        refine Ev.succ ?_
        simp only [impl_FreeBefore.j0, if_true]
        exact Ev.now _
  · refine ⟨([], false), by simp, Ev.bind (sAsked l m p hl hm) ?_, Ev.bind (iAsked l m p hl hm) ?_⟩
    · simp only [h, Bool.false_eq_true, if_false]
      refine Ev.succ ?_
      simp only [spec_FreeBefore.j0, if_true]
      exact Ev.now _
    · simp only [h, Bool.false_eq_true, if_false]
      refine Ev.succ ?_
      simp only [impl_FreeBefore.j0, if_true]
      exact Ev.now _
end Go.Proofs.Ytcgpibbbkdhpeaa.M

namespace Go.Proofs.Ytcgpibbbkdhpeaa.M
end Go.Proofs.Ytcgpibbbkdhpeaa.M
namespace Go.Proofs.Ytcgpibbbkdhpeaa.WK
open Go Go.RowKit Go.Proofs.Ytcgpibbbkdhpeaa.Q Go.Proofs.Ytcgpibbbkdhpeaa.M Go.Proofs.YtcgpibbbkdhpeaaW.PrintWords Go.Proofs.YtcgpibbbkdhpeaaW.Pl Go.Proofs.YtcgpibbbkdhpeaaW.SL
set_option linter.unusedSimpArgs false
set_option linter.unusedVariables false
set_option maxRecDepth 100000
namespace LD
theorem sc3 : ScT Try.prog 3 := ⟨by kernel_rfl⟩
theorem fld51_2 : FldT Try.prog 51 2 2 := ⟨by kernel_rfl⟩
theorem fld51_3 : FldT Try.prog 51 3 3 := ⟨by kernel_rfl⟩
theorem el25 : ElT Try.prog 25 51 5 := ⟨by kernel_rfl⟩
theorem el29 : ElT Try.prog 29 3 1 := ⟨by kernel_rfl⟩
theorem en38 : Ent Try.prog 38 := ⟨enters_of Try.func38 (by kernel_rfl) rfl⟩
theorem en39 : Ent Try.prog 39 := ⟨enters_of Try.func39 (by kernel_rfl) rfl⟩
theorem en35 : Ent Try.prog 35 := ⟨enters_of Try.func35 (by kernel_rfl) rfl⟩
theorem en34 : Ent Try.prog 34 := ⟨enters_of Try.func34 (by kernel_rfl) rfl⟩
theorem en40 : Ent Try.prog 40 := ⟨enters_of Try.func40 (by kernel_rfl) rfl⟩
theorem en33 : Ent Try.prog 33 := ⟨enters_of Try.func33 (by kernel_rfl) rfl⟩
theorem en37 : Ent Try.prog 37 := ⟨enters_of Try.func37 (by kernel_rfl) rfl⟩
theorem en29 : Ent Try.prog 29 := ⟨enters_of Try.func29 (by kernel_rfl) rfl⟩
theorem en41 : Ent Try.prog 41 := ⟨enters_of Try.func41 (by kernel_rfl) rfl⟩
theorem en28 : Ent Try.prog 28 := ⟨enters_of Try.func28 (by kernel_rfl) rfl⟩
theorem en42 : Ent Try.prog 42 := ⟨enters_of Try.func42 (by kernel_rfl) rfl⟩
theorem en36 : Ent Try.prog 36 := ⟨enters_of Try.func36 (by kernel_rfl) rfl⟩
theorem mixed : Try.prog.follows .mixedOrders = true := by kernel_rfl
theorem vI_ (k : Nat) (A0 : Option Addr) (c0 : Nat) (l0 : List Int) (A1 : Option Addr) (c1 : Nat) (l1 : List Int) (r : Bool) (w : World) (hr0 : Kd.C (Kd.int .i64) w A0 l0.length l0) (hc0 : l0.length ≤ c0) (hr1 : Kd.C (Kd.int .i64) w A1 l1.length l1) (hc1 : l1.length ≤ c1) (h : laws_vInts.f k l0 l1 = some r) :
    Calls Try.prog 40 #[.slice A0 l0.length c0, .slice A1 l1.length c1] w fun e w' => e = .returned (.bool r) ∧ Below w.heap.size w w' := (laws_vInts.calls k A0 c0 l0 A1 c1 l1 r w hr0 hc0 hr1 hc1 h).mono (fun _ _ h => ⟨h.1, h.2.below⟩)
theorem eqBB {P : Program} {N : Nat} {B : Base} {L : Sl} {its : List Go.Proofs.YtcgpibbbkdhpeaaW.SL.Item} {ps : List (World → Prop)} {o : Oper} {x y : Operand} {tx ty : TypeId} {p : Bool} (hop : o.op = .binOp .eql tx x y ty) (hx : ev L x = some (.bool p)) (hy : ev L y = some (.bool p)) (ht : P.underlying tx = some .bool) : Yd P N B o (.bool true) L its ps :=
  Y.cmpB ht hop hx hy (by simp [bbOp])
set_option maxHeartbeats 2000000 in
theorem walkB (l0 : List Int) (A0 : Option Addr) (c0 : Nat) (w : World) (hr0 : Kd.C (Kd.int .u8) w A0 l0.length l0) (hc0 : l0.length ≤ c0) (hbig : laws_vBig.f l0 = some true) : Calls Try.prog 11 #[.slice A0 l0.length c0] w fun e w' => e = .returned (.bool true) ∧ Below w.heap.size w w' := by
  let Rr : Ending → World → Prop := fun e w' => e = .returned (.bool true) ∧ Below w.heap.size w w'
  refine enterW (args := [.slice A0 l0.length c0]) [(fun W => (Kd.int .u8).C W A0 l0.length l0)] (fun p hp W hb => by rw [List.mem_singleton.1 hp]; exact Kd.C_below hr0 hb) Try.func11 rfl rfl ?_
  show Cj Try.prog _ _ _ (bodyPost Try.prog Try.f11 Rr) _ _ _
  repeat (first
    | (apply gateO; first
      | refine Jl.yd (Y.mv rfl rfl) rfl rfl rfl ?_
      | refine Jl.yd (Y.asg rfl rfl) rfl rfl rfl ?_
      | refine Jl.yd (Y.ext rfl rfl rfl) rfl rfl rfl ?_
      | refine Jl.yd (Y.pickT rfl rfl rfl) rfl rfl rfl ?_
      | refine Jl.yd (Y.pickF rfl rfl rfl) rfl rfl rfl ?_
      | refine Jl.off rfl rfl rfl ?_
      | refine Jl.yd (Y.cmpF rfl rfl rfl rfl (by omega)) rfl rfl rfl ?_
      | refine Jl.yd (Y.cmpT rfl rfl rfl rfl (by omega)) rfl rfl rfl ?_
      | refine Jl.yd (Y.neqB rfl rfl rfl Try.underlying4) rfl rfl rfl ?_
      | refine Jl.yd (Y.cmp rfl rfl rfl rfl) rfl rfl rfl ?_
      | refine Jl.yd (Y.not rfl rfl) rfl rfl rfl ?_
      | refine Jl.yd (Y.arithN rfl rfl rfl rfl (by omega)) rfl rfl rfl ?_
      | refine Jl.yd (Y.arith64 rfl rfl rfl rfl) rfl rfl rfl ?_
      | refine Jl.call1 (v := .bool true) rfl rfl rfl rfl en38 rfl (fun w hW => (laws_vBig.calls _ _ l0 true w (hW.fact (p := (fun W => (Kd.int .u8).C W A0 l0.length l0)) (by repeat (first | exact memH | refine memT ?_))) hc0 hbig).mono (fun _ _ h => ⟨h.1, h.2.below⟩)) ?_
      | refine Jl.splitG rfl rfl (fun h => ?_) (fun h => ?_))
    | (apply gateE; first
      | refine Jl.nil (Ej.go ?_ (fun _ _ h => h))
      | (refine Jl.nil (Ej.back (fun _ _ h => h) (by repeat (first | exact .refl | apply DropTo.tail)) ?_); repeat (first | exact trivial | refine ⟨rfl, ?_⟩)))
    | (apply gateC; first
      | refine Cj.ret rfl (Ej.out1 (P := Try.prog) (fn := Try.f11) (R := Rr) (fun _ _ h => h) rfl rfl (fun w' hW => ⟨rfl, hW.below⟩))
      | refine Cj.condF rfl rfl (Cj.skip rfl (Ej.go ?_ (fun _ _ h => h)))
      | (refine Cj.condF rfl rfl (Cj.skip rfl (Ej.back (fun _ _ h => h) (by repeat (first | exact .refl | apply DropTo.tail)) ?_)); repeat (first | exact trivial | refine ⟨rfl, ?_⟩))
      | refine Cj.condF rfl rfl ?_
      | refine Cj.condT rfl rfl ?_
      | refine Cj.exit rfl (Ej.go ?_ (fun _ _ h => h))
      | refine Cj.cond rfl rfl (fun h => ?_) (fun h => ?_)
      | refine Cj.skip rfl (Ej.go ?_ (fun _ _ h => h))
      | (refine Cj.skip rfl (Ej.back (fun _ _ h => h) (by repeat (first | exact .refl | apply DropTo.tail)) ?_); repeat (first | exact trivial | refine ⟨rfl, ?_⟩))
      | refine Cj.seq rfl ?_
      | refine Cj.region rfl ?_))
set_option maxHeartbeats 8000000 in
theorem walkN (l0 : List Int) (A0 : Option Addr) (c0 : Nat) (w : World) (hr0 : Kd.C (Kd.int .u8) w A0 l0.length l0) (hc0 : l0.length ≤ c0) (hbig : laws_vBig.f l0 = some false) (jobs : List S51) (looms plan : List Int) (d1 d2 : Int) (k1 k2 k3 ka kb kc kd ke kf kg kh : Nat) (hD1 : spec_DrawEndsOf.f k1 l0 = some (jobs, looms, plan)) (hD2 : spec_DrawIdleDays.f k2 l0 = some (jobs, looms, plan, d1)) (hD3 : spec_DrawFreeBefore.f k3 l0 = some (jobs, looms, plan, d2))
    (E : List Int) (h40 : laws_vInts.f kc E E = some true) (u : Int) (tb : Bool) (h29 : impl_IdleDays.f kd jobs looms plan d1 = some (u, tb)) (h28 : spec_IdleDays.f ke jobs looms plan d1 = some (u, tb)) (G : List Int) (fb : Bool) (h37 : impl_FreeBefore.f kf jobs looms plan d2 = some (G, fb)) (h36 : spec_FreeBefore.f kg jobs looms plan d2 = some (G, fb)) (hG : laws_vInts.f kh G G = some true) (h35 : impl_EndsOf.f ka jobs looms plan = some (E, false)) (h34 : spec_EndsOf.f kb jobs looms plan = some (E, false)) : Calls Try.prog 11 #[.slice A0 l0.length c0] w fun e w' => e = .returned (.bool true) ∧ Below w.heap.size w w' := by
  let Rr : Ending → World → Prop := fun e w' => e = .returned (.bool true) ∧ Below w.heap.size w w'
  refine enterW (args := [.slice A0 l0.length c0]) [(fun W => (Kd.int .u8).C W A0 l0.length l0)] (fun p hp W hb => by rw [List.mem_singleton.1 hp]; exact Kd.C_below hr0 hb) Try.func11 rfl rfl ?_
  show Cj Try.prog _ _ _ (bodyPost Try.prog Try.f11 Rr) _ _ _
  repeat (first
    | (apply gateO; first
      | refine Jl.yd (Y.mv rfl rfl) rfl rfl rfl ?_
      | refine Jl.yd (Y.asg rfl rfl) rfl rfl rfl ?_
      | refine Jl.yd (Y.ext rfl rfl rfl) rfl rfl rfl ?_
      | refine Jl.yd (Y.pickT rfl rfl rfl) rfl rfl rfl ?_
      | refine Jl.yd (Y.pickF rfl rfl rfl) rfl rfl rfl ?_
      | refine Jl.off rfl rfl rfl ?_
      | refine Jl.yd (Y.cmpF rfl rfl rfl rfl (by omega)) rfl rfl rfl ?_
      | refine Jl.yd (Y.cmpT rfl rfl rfl rfl (by omega)) rfl rfl rfl ?_
      | refine Jl.yd (Y.neqB rfl rfl rfl Try.underlying4) rfl rfl rfl ?_
      | refine Jl.yd (Y.cmp rfl rfl rfl rfl) rfl rfl rfl ?_
      | refine Jl.yd (Y.not rfl rfl) rfl rfl rfl ?_
      | refine Jl.yd (Y.arithN rfl rfl rfl rfl (by omega)) rfl rfl rfl ?_
      | refine Jl.yd (Y.arith64 rfl rfl rfl rfl) rfl rfl rfl ?_
      | refine Jl.yd (Y.lenS Try.underlying25 rfl rfl rfl) rfl rfl rfl ?_
      | refine Jl.yd (Y.lenS Try.underlying29 rfl rfl rfl) rfl rfl rfl ?_
      | refine Jl.call1 (v := .bool false) rfl rfl rfl rfl en38 rfl (fun w hW => (laws_vBig.calls _ _ l0 false w (hW.fact (p := (fun W => (Kd.int .u8).C W A0 l0.length l0)) (by repeat (first | exact memH | refine memT ?_))) hc0 hbig).mono (fun _ _ h => ⟨h.1, h.2.below⟩)) ?_
      | refine Jl.draw3 (fun v0 v1 v2 => .tuple #[v0, v1, v2]) jobs looms plan rfl rfl rfl rfl en39 rfl (fun w hW => by with_reducible exact spec_DrawEndsOf.calls k1 A0 c0 l0 jobs looms plan w (hW.fact (p := (fun W => (Kd.int .u8).C W A0 l0.length l0)) (by repeat (first | exact memH | refine memT ?_))) hc0 hD1) (fun Aj1 cj1 Am1 cm1 Ap1 cp1 hj1 hm1 hp1 => ?_)
      | refine Jl.draw1 (fun v => .tuple #[v, .bool false]) E rfl rfl rfl rfl en35 rfl (fun w hW => by with_reducible exact impl_EndsOf.calls ka Aj1 cj1 jobs Am1 cm1 looms Ap1 cp1 plan E false w (hW.fact (p := (fun W => Kd.C k51 W Aj1 jobs.length jobs)) (by repeat (first | exact memH | refine memT ?_))) hj1 (hW.fact (p := (fun W => (Kd.int .i64).C W Am1 looms.length looms)) (by repeat (first | exact memH | refine memT ?_))) hm1 (hW.fact (p := (fun W => (Kd.int .i64).C W Ap1 plan.length plan)) (by repeat (first | exact memH | refine memT ?_))) hp1 h35) (fun Ae ce he => ?_)
      | refine Jl.draw1 (fun v => .tuple #[v, .bool false]) E rfl rfl rfl rfl en34 rfl (fun w hW => by with_reducible exact spec_EndsOf.calls kb Aj1 cj1 jobs Am1 cm1 looms Ap1 cp1 plan E false w (hW.fact (p := (fun W => Kd.C k51 W Aj1 jobs.length jobs)) (by repeat (first | exact memH | refine memT ?_))) hj1 (hW.fact (p := (fun W => (Kd.int .i64).C W Am1 looms.length looms)) (by repeat (first | exact memH | refine memT ?_))) hm1 (hW.fact (p := (fun W => (Kd.int .i64).C W Ap1 plan.length plan)) (by repeat (first | exact memH | refine memT ?_))) hp1 h34) (fun Af cf hf => ?_)
      | refine Jl.call1 (v := .bool true) rfl rfl rfl rfl en40 rfl (fun w hW => by with_reducible exact vI_ kc Ae ce E Af cf E true w (hW.fact (p := (fun W => (Kd.int .i64).C W Ae E.length E)) (by repeat (first | exact memH | refine memT ?_))) he (hW.fact (p := (fun W => (Kd.int .i64).C W Af E.length E)) (by repeat (first | exact memH | refine memT ?_))) hf h40) ?_
      | refine Jl.draw3 (fun v0 v1 v2 => .tuple #[v0, v1, v2, .int .i64 d1]) jobs looms plan rfl rfl rfl rfl en41 rfl (fun w hW => by with_reducible exact spec_DrawIdleDays.calls k2 A0 c0 l0 jobs looms plan d1 w (hW.fact (p := (fun W => (Kd.int .u8).C W A0 l0.length l0)) (by repeat (first | exact memH | refine memT ?_))) hc0 hD2) (fun Aj2 cj2 Am2 cm2 Ap2 cp2 hj2 hm2 hp2 => ?_)
      | refine Jl.call1 (v := .tuple #[.int .i64 u, .bool tb]) rfl rfl rfl rfl en29 rfl (fun w hW => by with_reducible exact impl_IdleDays.calls kd Aj2 cj2 jobs Am2 cm2 looms Ap2 cp2 plan d1 u tb w (hW.fact (p := (fun W => Kd.C k51 W Aj2 jobs.length jobs)) (by repeat (first | exact memH | refine memT ?_))) hj2 (hW.fact (p := (fun W => (Kd.int .i64).C W Am2 looms.length looms)) (by repeat (first | exact memH | refine memT ?_))) hm2 (hW.fact (p := (fun W => (Kd.int .i64).C W Ap2 plan.length plan)) (by repeat (first | exact memH | refine memT ?_))) hp2 h29) ?_
      | refine Jl.call1 (v := .tuple #[.int .i64 u, .bool tb]) rfl rfl rfl rfl en28 rfl (fun w hW => by with_reducible exact spec_IdleDays.calls ke Aj2 cj2 jobs Am2 cm2 looms Ap2 cp2 plan d1 u tb w (hW.fact (p := (fun W => Kd.C k51 W Aj2 jobs.length jobs)) (by repeat (first | exact memH | refine memT ?_))) hj2 (hW.fact (p := (fun W => (Kd.int .i64).C W Am2 looms.length looms)) (by repeat (first | exact memH | refine memT ?_))) hm2 (hW.fact (p := (fun W => (Kd.int .i64).C W Ap2 plan.length plan)) (by repeat (first | exact memH | refine memT ?_))) hp2 h28) ?_
      | refine Jl.draw3 (fun v0 v1 v2 => .tuple #[v0, v1, v2, .int .i64 d2]) jobs looms plan rfl rfl rfl rfl en42 rfl (fun w hW => by with_reducible exact spec_DrawFreeBefore.calls k3 A0 c0 l0 jobs looms plan d2 w (hW.fact (p := (fun W => (Kd.int .u8).C W A0 l0.length l0)) (by repeat (first | exact memH | refine memT ?_))) hc0 hD3) (fun Aj3 cj3 Am3 cm3 Ap3 cp3 hj3 hm3 hp3 => ?_)
      | refine Jl.draw1 (fun v => .tuple #[v, .bool fb]) G rfl rfl rfl rfl en37 rfl (fun w hW => by with_reducible exact impl_FreeBefore.calls kf Aj3 cj3 jobs Am3 cm3 looms Ap3 cp3 plan d2 G fb w (hW.fact (p := (fun W => Kd.C k51 W Aj3 jobs.length jobs)) (by repeat (first | exact memH | refine memT ?_))) hj3 (hW.fact (p := (fun W => (Kd.int .i64).C W Am3 looms.length looms)) (by repeat (first | exact memH | refine memT ?_))) hm3 (hW.fact (p := (fun W => (Kd.int .i64).C W Ap3 plan.length plan)) (by repeat (first | exact memH | refine memT ?_))) hp3 h37) (fun Ag cg hg => ?_)
      | refine Jl.draw1 (fun v => .tuple #[v, .bool fb]) G rfl rfl rfl rfl en36 rfl (fun w hW => by with_reducible exact spec_FreeBefore.calls kg Aj3 cj3 jobs Am3 cm3 looms Ap3 cp3 plan d2 G fb w (hW.fact (p := (fun W => Kd.C k51 W Aj3 jobs.length jobs)) (by repeat (first | exact memH | refine memT ?_))) hj3 (hW.fact (p := (fun W => (Kd.int .i64).C W Am3 looms.length looms)) (by repeat (first | exact memH | refine memT ?_))) hm3 (hW.fact (p := (fun W => (Kd.int .i64).C W Ap3 plan.length plan)) (by repeat (first | exact memH | refine memT ?_))) hp3 h36) (fun Aq cq hq => ?_)
      | refine Jl.call1 (v := .bool true) rfl rfl rfl rfl en40 rfl (fun w hW => by with_reducible exact vI_ kh Ag cg G Aq cq G true w (hW.fact (p := (fun W => (Kd.int .i64).C W Ag G.length G)) (by repeat (first | exact memH | refine memT ?_))) hg (hW.fact (p := (fun W => (Kd.int .i64).C W Aq G.length G)) (by repeat (first | exact memH | refine memT ?_))) hq hG) ?_
      | refine Jl.yd (eqBB rfl rfl rfl Try.underlying4) rfl rfl rfl ?_
      | refine Jl.splitG rfl rfl (fun h => ?_) (fun h => ?_))
    | (apply gateE; first
      | refine Jl.nil (Ej.go ?_ (fun _ _ h => h))
      | (refine Jl.nil (Ej.back (fun _ _ h => h) (by repeat (first | exact .refl | apply DropTo.tail)) ?_); repeat (first | exact trivial | refine ⟨rfl, ?_⟩)))
    | (apply gateC; first
      | refine Cj.block rfl ?_
      | refine Cj.ret rfl (Ej.out1 (P := Try.prog) (fn := Try.f11) (R := Rr) (fun _ _ h => h) rfl rfl (fun w' hW => ⟨rfl, hW.below⟩))
      | refine Cj.condF rfl rfl (Cj.skip rfl (Ej.go ?_ (fun _ _ h => h)))
      | (refine Cj.condF rfl rfl (Cj.skip rfl (Ej.back (fun _ _ h => h) (by repeat (first | exact .refl | apply DropTo.tail)) ?_)); repeat (first | exact trivial | refine ⟨rfl, ?_⟩))
      | refine Cj.condF rfl rfl ?_
      | refine Cj.condT rfl rfl ?_
      | refine Cj.exit rfl (Ej.go ?_ (fun _ _ h => h))
      | refine Cj.cond rfl rfl (fun h => ?_) (fun h => ?_)
      | refine Cj.skip rfl (Ej.go ?_ (fun _ _ h => h))
      | (refine Cj.skip rfl (Ej.back (fun _ _ h => h) (by repeat (first | exact .refl | apply DropTo.tail)) ?_); repeat (first | exact trivial | refine ⟨rfl, ?_⟩))
      | refine Cj.seq rfl ?_
      | refine Cj.region rfl ?_))
set_option maxHeartbeats 16000000 in
theorem walkY (l0 : List Int) (A0 : Option Addr) (c0 : Nat) (w : World) (hr0 : Kd.C (Kd.int .u8) w A0 l0.length l0) (hc0 : l0.length ≤ c0) (hbig : laws_vBig.f l0 = some false) (jobs : List S51) (looms plan : List Int) (d1 d2 : Int) (k1 k2 k3 ka kb kc kd ke kf kg kh : Nat) (hD1 : spec_DrawEndsOf.f k1 l0 = some (jobs, looms, plan)) (hD2 : spec_DrawIdleDays.f k2 l0 = some (jobs, looms, plan, d1)) (hD3 : spec_DrawFreeBefore.f k3 l0 = some (jobs, looms, plan, d2))
    (E : List Int) (h40 : laws_vInts.f kc E E = some true) (u : Int) (tb : Bool) (h29 : impl_IdleDays.f kd jobs looms plan d1 = some (u, tb)) (h28 : spec_IdleDays.f ke jobs looms plan d1 = some (u, tb)) (G : List Int) (fb : Bool) (h37 : impl_FreeBefore.f kf jobs looms plan d2 = some (G, fb)) (h36 : spec_FreeBefore.f kg jobs looms plan d2 = some (G, fb)) (hG : laws_vInts.f kh G G = some true) (h35 : impl_EndsOf.f ka jobs looms plan = some (E, true)) (h34 : spec_EndsOf.f kb jobs looms plan = some (E, true)) (last : Int) (kl : Nat) (h33 : impl_LastEnd.f kl jobs looms plan = some (last, true)) (R : List Int) (kr : Nat) (hR : impl_FreeBefore.f kr jobs looms plan last = some (R, true)) (hRl : R.length = looms.length)
    (hpl : plan.length = jobs.length) (hEl : E.length = jobs.length) (hjl : jobs.length ≤ 6) (hml : looms.length ≤ 3)
    (hid : ∀ a : Nat, a < looms.length → ∃ k, impl_IdleDays.f k jobs looms plan (a : Int) = some ((ew jobs plan E (a : Int) jobs.length).1 - (ew jobs plan E (a : Int) jobs.length).2, true))
    (hew : ∀ a : Nat, a < looms.length → 0 ≤ (ew jobs plan E (a : Int) jobs.length).2 ∧ (ew jobs plan E (a : Int) jobs.length).2 ≤ (ew jobs plan E (a : Int) jobs.length).1 ∧ (ew jobs plan E (a : Int) jobs.length).1 ≤ 7000)
    (hwb : ∀ (a : Int) (i : Nat), i ≤ jobs.length → 0 ≤ (ew jobs plan E a i).2 ∧ (ew jobs plan E a i).2 ≤ 400 * (i : Int))
    (hjb : ∀ i, i < jobs.length → (0 ≤ (nth jobs i z51).f2 ∧ (nth jobs i z51).f2 ≤ 400) ∧ (0 ≤ (nth jobs i z51).f3 ∧ (nth jobs i z51).f3 ≤ 4000) ∧ (nth jobs i z51).f3 + (nth jobs i z51).f2 ≤ nth E i 0 ∧ nth E i 0 ≤ last) : Calls Try.prog 11 #[.slice A0 l0.length c0] w fun e w' => e = .returned (.bool true) ∧ Below w.heap.size w w' := by
  let Rr : Ending → World → Prop := fun e w' => e = .returned (.bool true) ∧ Below w.heap.size w w'
  refine enterW (args := [.slice A0 l0.length c0]) [(fun W => (Kd.int .u8).C W A0 l0.length l0)] (fun p hp W hb => by rw [List.mem_singleton.1 hp]; exact Kd.C_below hr0 hb) Try.func11 rfl rfl ?_
  show Cj Try.prog _ _ _ (bodyPost Try.prog Try.f11 Rr) _ _ _
  repeat (first
    | (apply gateO; first
      | refine Jl.yd (Y.mv rfl rfl) rfl rfl rfl ?_
      | refine Jl.yd (Y.asg rfl rfl) rfl rfl rfl ?_
      | refine Jl.yd (Y.ext rfl rfl rfl) rfl rfl rfl ?_
      | refine Jl.yd (Y.pickT rfl rfl rfl) rfl rfl rfl ?_
      | refine Jl.yd (Y.pickF rfl rfl rfl) rfl rfl rfl ?_
      | refine Jl.off rfl rfl rfl ?_
      | refine Jl.yd (Y.cmpF rfl rfl rfl rfl (by omega)) rfl rfl rfl ?_
      | refine Jl.yd (Y.cmpT rfl rfl rfl rfl (by omega)) rfl rfl rfl ?_
      | refine Jl.yd (Y.neqB rfl rfl rfl Try.underlying4) rfl rfl rfl ?_
      | refine Jl.yd (Y.cmp rfl rfl rfl rfl) rfl rfl rfl ?_
      | refine Jl.yd (Y.not rfl rfl) rfl rfl rfl ?_
      | refine Jl.yd (Y.arithN rfl rfl rfl rfl (by omega)) rfl rfl rfl ?_
      | refine Jl.yd (Y.arith64 rfl rfl rfl rfl) rfl rfl rfl ?_
      | refine Jl.yd (Y.lenS Try.underlying25 rfl rfl rfl) rfl rfl rfl ?_
      | refine Jl.yd (Y.lenS Try.underlying29 rfl rfl rfl) rfl rfl rfl ?_
      | refine Jl.call1 (v := .bool false) rfl rfl rfl rfl en38 rfl (fun w hW => (laws_vBig.calls _ _ l0 false w (hW.fact (p := (fun W => (Kd.int .u8).C W A0 l0.length l0)) (by repeat (first | exact memH | refine memT ?_))) hc0 hbig).mono (fun _ _ h => ⟨h.1, h.2.below⟩)) ?_
      | refine Jl.draw3 (fun v0 v1 v2 => .tuple #[v0, v1, v2]) jobs looms plan rfl rfl rfl rfl en39 rfl (fun w hW => by with_reducible exact spec_DrawEndsOf.calls k1 A0 c0 l0 jobs looms plan w (hW.fact (p := (fun W => (Kd.int .u8).C W A0 l0.length l0)) (by repeat (first | exact memH | refine memT ?_))) hc0 hD1) (fun Aj1 cj1 Am1 cm1 Ap1 cp1 hj1 hm1 hp1 => ?_)
      | refine Jl.draw1 (fun v => .tuple #[v, .bool true]) E rfl rfl rfl rfl en35 rfl (fun w hW => by with_reducible exact impl_EndsOf.calls ka Aj1 cj1 jobs Am1 cm1 looms Ap1 cp1 plan E true w (hW.fact (p := (fun W => Kd.C k51 W Aj1 jobs.length jobs)) (by repeat (first | exact memH | refine memT ?_))) hj1 (hW.fact (p := (fun W => (Kd.int .i64).C W Am1 looms.length looms)) (by repeat (first | exact memH | refine memT ?_))) hm1 (hW.fact (p := (fun W => (Kd.int .i64).C W Ap1 plan.length plan)) (by repeat (first | exact memH | refine memT ?_))) hp1 h35) (fun Ae ce he => ?_)
      | refine Jl.draw1 (fun v => .tuple #[v, .bool true]) E rfl rfl rfl rfl en34 rfl (fun w hW => by with_reducible exact spec_EndsOf.calls kb Aj1 cj1 jobs Am1 cm1 looms Ap1 cp1 plan E true w (hW.fact (p := (fun W => Kd.C k51 W Aj1 jobs.length jobs)) (by repeat (first | exact memH | refine memT ?_))) hj1 (hW.fact (p := (fun W => (Kd.int .i64).C W Am1 looms.length looms)) (by repeat (first | exact memH | refine memT ?_))) hm1 (hW.fact (p := (fun W => (Kd.int .i64).C W Ap1 plan.length plan)) (by repeat (first | exact memH | refine memT ?_))) hp1 h34) (fun Af cf hf => ?_)
      | refine Jl.call1 (v := .bool true) rfl rfl rfl rfl en40 rfl (fun w hW => by with_reducible exact vI_ kc Ae ce E Af cf E true w (hW.fact (p := (fun W => (Kd.int .i64).C W Ae E.length E)) (by repeat (first | exact memH | refine memT ?_))) he (hW.fact (p := (fun W => (Kd.int .i64).C W Af E.length E)) (by repeat (first | exact memH | refine memT ?_))) hf h40) ?_
      | refine Jl.call1 (v := .tuple #[.int .i64 last, .bool true]) rfl rfl rfl rfl en33 rfl (fun w hW => by with_reducible exact impl_LastEnd.calls kl Aj1 cj1 jobs Am1 cm1 looms Ap1 cp1 plan last true w (hW.fact (p := (fun W => Kd.C k51 W Aj1 jobs.length jobs)) (by repeat (first | exact memH | refine memT ?_))) hj1 (hW.fact (p := (fun W => (Kd.int .i64).C W Am1 looms.length looms)) (by repeat (first | exact memH | refine memT ?_))) hm1 (hW.fact (p := (fun W => (Kd.int .i64).C W Ap1 plan.length plan)) (by repeat (first | exact memH | refine memT ?_))) hp1 h33) ?_
      | refine Jl.draw1 (fun v => .tuple #[v, .bool true]) R rfl rfl rfl rfl en37 rfl (fun w hW => by with_reducible exact impl_FreeBefore.calls kr Aj1 cj1 jobs Am1 cm1 looms Ap1 cp1 plan last R true w (hW.fact (p := (fun W => Kd.C k51 W Aj1 jobs.length jobs)) (by repeat (first | exact memH | refine memT ?_))) hj1 (hW.fact (p := (fun W => (Kd.int .i64).C W Am1 looms.length looms)) (by repeat (first | exact memH | refine memT ?_))) hm1 (hW.fact (p := (fun W => (Kd.int .i64).C W Ap1 plan.length plan)) (by repeat (first | exact memH | refine memT ?_))) hp1 hR) (fun Ar cr hr => ?_)
      | refine Jl.splitG rfl rfl (fun h => ?_) (fun h => ?_))
    | (apply gateE; first
      | refine Jl.nil (Ej.go ?_ (fun _ _ h => h))
      | (refine Jl.nil (Ej.back (fun _ _ h => h) (by repeat (first | exact .refl | apply DropTo.tail)) ?_); repeat (first | exact trivial | refine ⟨rfl, ?_⟩)))
    | (apply gateC; first
      | refine Cj.condF rfl rfl (Cj.skip rfl (Ej.go ?_ (fun _ _ h => h)))
      | (refine Cj.condF rfl rfl (Cj.skip rfl (Ej.back (fun _ _ h => h) (by repeat (first | exact .refl | apply DropTo.tail)) ?_)); repeat (first | exact trivial | refine ⟨rfl, ?_⟩))
      | refine Cj.condF rfl rfl ?_
      | refine Cj.condT rfl rfl ?_
      | refine Cj.exit rfl (Ej.go ?_ (fun _ _ h => h))
      | refine Cj.cond rfl rfl (fun h => ?_) (fun h => ?_)
      | refine Cj.skip rfl (Ej.go ?_ (fun _ _ h => h))
      | (refine Cj.skip rfl (Ej.back (fun _ _ h => h) (by repeat (first | exact .refl | apply DropTo.tail)) ?_); repeat (first | exact trivial | refine ⟨rfl, ?_⟩))
      | refine Cj.seq rfl ?_
      | refine Cj.region rfl ?_))
  refine Cj.block rfl ?_
  refine Cj.loopP (ι := Nat) (fun q => q ≤ looms.length) (fun q => [(0, .slice A0 l0.length c0), (3, .slice Aj1 jobs.length cj1), (4, .slice Am1 looms.length cm1), (5, .slice Ap1 plan.length cp1), (6, .slice Ae E.length ce), (10, .int .i64 last), (14, .int .i64 (q : Int))]) (fun _ => []) (fun _ => [(fun W => (Kd.int .i64).C W Ae E.length E), (fun W => Kd.C k51 W Aj1 jobs.length jobs), (fun W => (Kd.int .i64).C W Am1 looms.length looms), (fun W => (Kd.int .i64).C W Ap1 plan.length plan), (fun W => (Kd.int .u8).C W A0 l0.length l0)]) (fun q => looms.length - q) rfl 0 (Nat.zero_le _) ⟨rfl, rfl, rfl, rfl, rfl, rfl, rfl, trivial⟩ (by repeat (first | exact .nil | refine Pick.cons (by repeat (first | exact .z | apply OutAt.s)) ?_)) (fun p hp => .tail _ (.tail _ hp)) (fun a ha => ?_)
  by_cases hla : a < looms.length
  · obtain ⟨ki, hki⟩ := hid a hla
    have hea := hew a hla
    repeat (first
    | (apply gateO; first
      | refine Jl.yd (Y.mv rfl rfl) rfl rfl rfl ?_
      | refine Jl.yd (Y.asg rfl rfl) rfl rfl rfl ?_
      | refine Jl.yd (Y.ext rfl rfl rfl) rfl rfl rfl ?_
      | refine Jl.yd (Y.pickT rfl rfl rfl) rfl rfl rfl ?_
      | refine Jl.yd (Y.pickF rfl rfl rfl) rfl rfl rfl ?_
      | refine Jl.off rfl rfl rfl ?_
      | refine Jl.yd (Y.cmpF rfl rfl rfl rfl (by omega)) rfl rfl rfl ?_
      | refine Jl.yd (Y.cmpT rfl rfl rfl rfl (by omega)) rfl rfl rfl ?_
      | refine Jl.yd (Y.neqB rfl rfl rfl Try.underlying4) rfl rfl rfl ?_
      | refine Jl.yd (Y.cmp rfl rfl rfl rfl) rfl rfl rfl ?_
      | refine Jl.yd (Y.not rfl rfl) rfl rfl rfl ?_
      | refine Jl.yd (Y.arithN rfl rfl rfl rfl (by omega)) rfl rfl rfl ?_
      | refine Jl.yd (Y.arith64 rfl rfl rfl rfl) rfl rfl rfl ?_
      | refine Jl.yd (Y.lenS Try.underlying25 rfl rfl rfl) rfl rfl rfl ?_
      | refine Jl.yd (Y.lenS Try.underlying29 rfl rfl rfl) rfl rfl rfl ?_
      | refine Jl.call1 (v := .tuple #[.int .i64 ((ew jobs plan E (a : Int) jobs.length).1 - (ew jobs plan E (a : Int) jobs.length).2), .bool true]) rfl rfl rfl rfl en29 rfl (fun w hW => by with_reducible exact impl_IdleDays.calls ki Aj1 cj1 jobs Am1 cm1 looms Ap1 cp1 plan (a : Int) _ true w (hW.fact (p := (fun W => Kd.C k51 W Aj1 jobs.length jobs)) (by repeat (first | exact memH | refine memT ?_))) hj1 (hW.fact (p := (fun W => (Kd.int .i64).C W Am1 looms.length looms)) (by repeat (first | exact memH | refine memT ?_))) hm1 (hW.fact (p := (fun W => (Kd.int .i64).C W Ap1 plan.length plan)) (by repeat (first | exact memH | refine memT ?_))) hp1 hki) ?_
      | refine Jl.splitG rfl rfl (fun h => ?_) (fun h => ?_))
    | (apply gateE; first
      | refine Jl.nil (Ej.go ?_ (fun _ _ h => h))
      | (refine Jl.nil (Ej.back (fun _ _ h => h) (by repeat (first | exact .refl | apply DropTo.tail)) ?_); repeat (first | exact trivial | refine ⟨rfl, ?_⟩)))
    | (apply gateC; first
      | refine Cj.block rfl ?_
      | refine Cj.condF rfl rfl (Cj.skip rfl (Ej.go ?_ (fun _ _ h => h)))
      | (refine Cj.condF rfl rfl (Cj.skip rfl (Ej.back (fun _ _ h => h) (by repeat (first | exact .refl | apply DropTo.tail)) ?_)); repeat (first | exact trivial | refine ⟨rfl, ?_⟩))
      | refine Cj.condF rfl rfl ?_
      | refine Cj.condT rfl rfl ?_
      | refine Cj.exit rfl (Ej.go ?_ (fun _ _ h => h))
      | refine Cj.cond rfl rfl (fun h => ?_) (fun h => ?_)
      | refine Cj.skip rfl (Ej.go ?_ (fun _ _ h => h))
      | (refine Cj.skip rfl (Ej.back (fun _ _ h => h) (by repeat (first | exact .refl | apply DropTo.tail)) ?_); repeat (first | exact trivial | refine ⟨rfl, ?_⟩))
      | refine Cj.seq rfl ?_
      | refine Cj.region rfl ?_))
    refine Cj.loopP (ι := Nat × Int × Int) (fun q => q.1 ≤ jobs.length ∧ (q.2.1, q.2.2) = ew jobs plan E (a : Int) q.1) (fun q => [(0, .slice A0 l0.length c0), (3, .slice Aj1 jobs.length cj1), (4, .slice Am1 looms.length cm1), (5, .slice Ap1 plan.length cp1), (6, .slice Ae E.length ce), (10, .int .i64 last), (14, .int .i64 (a : Int)), (15, .int .i64 ((ew jobs plan E (a : Int) jobs.length).1 - (ew jobs plan E (a : Int) jobs.length).2)), (16, .bool true), (17, .int .i64 q.2.1), (18, .int .i64 q.2.2), (19, .int .i64 (q.1 : Int))]) (fun _ => []) (fun _ => [(fun W => (Kd.int .i64).C W Ae E.length E), (fun W => Kd.C k51 W Aj1 jobs.length jobs), (fun W => (Kd.int .i64).C W Am1 looms.length looms), (fun W => (Kd.int .i64).C W Ap1 plan.length plan), (fun W => (Kd.int .u8).C W A0 l0.length l0)]) (fun q => jobs.length - q.1) rfl (0, 0, 0) ⟨Nat.zero_le _, rfl⟩ ⟨rfl, rfl, rfl, rfl, rfl, rfl, rfl, rfl, rfl, rfl, rfl, rfl, trivial⟩ (by repeat (first | exact .nil | refine Pick.cons (by repeat (first | exact .z | apply OutAt.s)) ?_)) (fun p hp => hp) (fun q hi => ?_)
    obtain ⟨i, en, wo⟩ := q
    dsimp only at hi ⊢
    obtain ⟨hi, hst⟩ := hi
    by_cases hlt : i < jobs.length
    · refine Cj.ws (ι := Unit) (fun _ => (∃ ad, Ap1 = some ad) ∧ (∃ ad, Ae = some ad) ∧ ∃ ad, Aj1 = some ad) (fun _ => []) (fun _ => [(fun W => (Kd.int .i64).C W Ae E.length E), (fun W => Kd.C k51 W Aj1 jobs.length jobs), (fun W => (Kd.int .i64).C W Am1 looms.length looms), (fun W => (Kd.int .i64).C W Ap1 plan.length plan), (fun W => (Kd.int .u8).C W A0 l0.length l0)]) (fun w' hW => by
        have f1 : (Kd.int .i64).C w' Ap1 plan.length plan := hW.fact (p := (fun W => (Kd.int .i64).C W Ap1 plan.length plan)) (by repeat (first | exact memH | refine memT ?_))
        have f2 : (Kd.int .i64).C w' Ae E.length E := hW.fact (p := (fun W => (Kd.int .i64).C W Ae E.length E)) (by repeat (first | exact memH | refine memT ?_))
        have f3 : Kd.C k51 w' Aj1 jobs.length jobs := hW.fact (p := (fun W => Kd.C k51 W Aj1 jobs.length jobs)) (by repeat (first | exact memH | refine memT ?_))
        obtain ⟨b1, g1, _⟩ := f1.2.2 (by omega)
        obtain ⟨b2, g2, _⟩ := f2.2.2 (by omega)
        obtain ⟨b3, g3, _⟩ := f3.2.2 (by omega)
        exact ⟨(), ⟨⟨b1, g1⟩, ⟨b2, g2⟩, b3, g3⟩, hW⟩) (fun _ hA => ?_)
      obtain ⟨⟨adp, rfl⟩, ⟨ade, rfl⟩, adj, rfl⟩ := hA
      have hb := hjb i hlt
      obtain ⟨x, hx⟩ : ∃ x, nth jobs i z51 = x := ⟨_, rfl⟩
      have he : E.getD ((i : Int)).toNat 0 = nth E i 0 := by rw [Int.toNat_natCast]; rfl
      have hpn : plan.getD ((i : Int)).toNat 0 = nth plan i 0 := by rw [Int.toNat_natCast]; rfl
      have hus : ([.int .i64 (jobs.getD ((i : Int)).toNat z51).f0, .int .i64 (jobs.getD ((i : Int)).toNat z51).f1, .int .i64 (jobs.getD ((i : Int)).toNat z51).f2, .int .i64 (jobs.getD ((i : Int)).toNat z51).f3, .int .i64 (jobs.getD ((i : Int)).toNat z51).f4] : List Value) = [.int .i64 x.f0, .int .i64 x.f1, .int .i64 x.f2, .int .i64 x.f3, .int .i64 x.f4] := by
        have hx2 : jobs.getD i z51 = x := hx
        rw [Int.toNat_natCast, hx2]
      rw [hx, ← he] at hb
      obtain ⟨hb1, hb2, hb3, hb4⟩ := hb
      have hwo := hwb (a : Int) i hi
      rw [← hst] at hwo
      replace hwo : 0 ≤ wo ∧ wo ≤ 400 * (i : Int) := hwo
      by_cases e : plan.getD ((i : Int)).toNat 0 = (a : Int)
      · have hN : (E.getD ((i : Int)).toNat 0, wo + x.f2) = ew jobs plan E (a : Int) (i + 1) := by
          show _ = (if nth plan i 0 = (a : Int) then (nth E i 0, (ew jobs plan E (a : Int) i).2 + (nth jobs i z51).f2) else ew jobs plan E (a : Int) i)
          rw [if_pos (by rw [← hpn]; exact e), ← hst, hx, he]
        repeat (first
    | (apply gateO; first
      | refine Jl.yd (Y.mv rfl rfl) rfl rfl rfl ?_
      | refine Jl.yd (Y.asg rfl rfl) rfl rfl rfl ?_
      | refine Jl.yd (Y.ext rfl rfl rfl) rfl rfl rfl ?_
      | refine Jl.yd (Y.pickT rfl rfl rfl) rfl rfl rfl ?_
      | refine Jl.yd (Y.pickF rfl rfl rfl) rfl rfl rfl ?_
      | refine Jl.off rfl rfl rfl ?_
      | refine Jl.yd (Y.cmpF rfl rfl rfl rfl (by omega)) rfl rfl rfl ?_
      | refine Jl.yd (Y.cmpT rfl rfl rfl rfl (by omega)) rfl rfl rfl ?_
      | refine Jl.yd (Y.neqB rfl rfl rfl Try.underlying4) rfl rfl rfl ?_
      | refine Jl.yd (Y.cmp rfl rfl rfl rfl) rfl rfl rfl ?_
      | refine Jl.yd (Y.not rfl rfl) rfl rfl rfl ?_
      | refine Jl.yd (Y.arithN rfl rfl rfl rfl (by omega)) rfl rfl rfl ?_
      | refine Jl.yd (Y.arith64 rfl rfl rfl rfl) rfl rfl rfl ?_
      | refine Jl.yd (Y.lenS Try.underlying25 rfl rfl rfl) rfl rfl rfl ?_
      | refine Jl.yd (Y.lenS Try.underlying29 rfl rfl rfl) rfl rfl rfl ?_
      | refine Jl.yd (Y.idx rfl rfl rfl el29 (by omega) (by omega)) rfl rfl rfl ?_
      | refine Jl.yd (Y.loadI rfl rfl sc3 (by repeat (first | exact .head _ | refine .tail _ ?_)) (i : Int) (by omega) (by omega) rfl) rfl rfl rfl ?_
      | refine Jl.yd (Y.idx rfl rfl rfl el25 (by omega) (by omega)) rfl rfl rfl ?_
      | refine Jl.yd (Y.fld rfl rfl fld51_2) rfl rfl rfl ?_
      | refine Jl.yd (Y.loadK1 z51 [.int .i64 x.f0, .int .i64 x.f1, .int .i64 x.f2, .int .i64 x.f3, .int .i64 x.f4] rfl rfl sc3 (by repeat (first | exact .head _ | refine .tail _ ?_)) (i : Int) 2 (by omega) (by omega) (by rfl) (fun w cs h => (k51_open h).trans hus) rfl) rfl rfl rfl ?_
      | refine Jl.splitG rfl rfl (fun h => ?_) (fun h => ?_))
    | (apply gateE; first
      | refine Jl.nil (Ej.go ?_ (fun _ _ h => h))
      | (refine Jl.nil (Ej.back (fun _ _ h => h) (by repeat (first | exact .refl | apply DropTo.tail)) ?_); repeat (first | exact trivial | refine ⟨rfl, ?_⟩)))
    | (apply gateC; first
      | refine Cj.block rfl ?_
      | refine Cj.condF rfl rfl (Cj.skip rfl (Ej.go ?_ (fun _ _ h => h)))
      | (refine Cj.condF rfl rfl (Cj.skip rfl (Ej.back (fun _ _ h => h) (by repeat (first | exact .refl | apply DropTo.tail)) ?_)); repeat (first | exact trivial | refine ⟨rfl, ?_⟩))
      | refine Cj.condF rfl rfl ?_
      | refine Cj.condT rfl rfl ?_
      | refine Cj.exit rfl (Ej.go ?_ (fun _ _ h => h))
      | refine Cj.cond rfl rfl (fun h => ?_) (fun h => ?_)
      | refine Cj.skip rfl (Ej.go ?_ (fun _ _ h => h))
      | (refine Cj.skip rfl (Ej.back (fun _ _ h => h) (by repeat (first | exact .refl | apply DropTo.tail)) ?_); repeat (first | exact trivial | refine ⟨rfl, ?_⟩))
      | refine Cj.seq rfl ?_
      | refine Cj.region rfl ?_))
        refine Cj.regionJ rfl [] mixed ?_
        refine Jw.take 0 rfl (by decide +kernel) (by intro c a d v w h; cases d <;> exact h) (fun w => Y.mv rfl rfl) rfl rfl rfl ?_
        refine Jw.take 1 rfl (by decide +kernel) (by intro c a d v w h; cases d <;> exact h) (fun w => Y.mv rfl rfl) rfl rfl rfl ?_
        refine Jw.take 4 rfl (by decide +kernel) (by intro c a d v w h; cases d <;> exact h) (fun w => Y.mv rfl rfl) rfl rfl rfl ?_
        refine Jw.take 5 rfl (by decide +kernel) (by intro c a d v w h; cases d <;> exact h) (fun w => Y.mv rfl rfl) rfl rfl rfl ?_
        refine Jw.take 9 rfl (by decide +kernel) (by intro c a d v w h; cases d <;> exact h) (fun w => Y.mv rfl rfl) rfl rfl rfl ?_
        refine Jw.take 10 rfl (by decide +kernel) (by intro c a d v w h; cases d <;> exact h) (fun w => Y.mv rfl rfl) rfl rfl rfl ?_
        refine Jw.take 2 rfl (by decide +kernel) (by intro c a d v w h; cases d <;> exact h) (fun w => Y.idx rfl rfl rfl el29 (by omega) (by omega)) rfl rfl rfl ?_
        refine Jw.take 6 rfl (by decide +kernel) (by intro c a d v w h; cases d <;> exact h) (fun w => Y.idx rfl rfl rfl el25 (by omega) (by omega)) rfl rfl rfl ?_
        refine Jw.take 11 rfl (by decide +kernel) (by intro c a d v w h; cases d <;> exact h) (fun w => Y.idx rfl rfl rfl el25 (by omega) (by omega)) rfl rfl rfl ?_
        refine Jw.take 7 rfl (by decide +kernel) (by intro c a d v w h; cases d <;> exact h) (fun w => Y.fld rfl rfl fld51_3) rfl rfl rfl ?_
        refine Jw.take 12 rfl (by decide +kernel) (by intro c a d v w h; cases d <;> exact h) (fun w => Y.fld rfl rfl fld51_2) rfl rfl rfl ?_
        refine Jw.takeR 3 rfl (by decide +kernel) (by intro c a d v w h; cases d <;> exact h) (Y.loadI rfl rfl sc3 (by repeat (first | exact .head _ | refine .tail _ ?_)) (i : Int) (by omega) (by omega) rfl) rfl rfl rfl ?_
        refine Jw.takeR 8 rfl (by decide +kernel) (by intro c a d v w h; cases d <;> exact h) (Y.loadK1 z51 [.int .i64 x.f0, .int .i64 x.f1, .int .i64 x.f2, .int .i64 x.f3, .int .i64 x.f4] rfl rfl sc3 (by repeat (first | exact .head _ | refine .tail _ ?_)) (i : Int) 3 (by omega) (by omega) (by rfl) (fun w cs h => (k51_open h).trans hus) rfl) rfl rfl rfl ?_
        refine Jw.takeR 13 rfl (by decide +kernel) (by intro c a d v w h; cases d <;> exact h) (Y.loadK1 z51 [.int .i64 x.f0, .int .i64 x.f1, .int .i64 x.f2, .int .i64 x.f3, .int .i64 x.f4] rfl rfl sc3 (by repeat (first | exact .head _ | refine .tail _ ?_)) (i : Int) 2 (by omega) (by omega) (by rfl) (fun w cs h => (k51_open h).trans hus) rfl) rfl rfl rfl ?_
        refine Jw.take 14 rfl (by decide +kernel) (by intro c a d v w h; cases d <;> exact h) (fun w => Y.arithN rfl rfl rfl rfl (by omega)) rfl rfl rfl ?_
        refine Jw.take 15 rfl (by decide +kernel) (by intro c a d v w h; cases d <;> exact h) (fun w => Y.cmpF rfl rfl rfl rfl (by omega)) rfl rfl rfl ?_
        refine Jw.take 16 rfl (by decide +kernel) (by intro c a d v w h; cases d <;> exact h) (fun w => Y.mv rfl rfl) rfl rfl rfl ?_
        refine Jw.take 17 rfl (by decide +kernel) (by intro c a d v w h; cases d <;> exact h) (fun w => Y.mv rfl rfl) rfl rfl rfl ?_
        refine Jw.take 18 rfl (by decide +kernel) (by intro c a d v w h; cases d <;> exact h) (fun w => Y.mv rfl rfl) rfl rfl rfl ?_
        refine Jw.take 19 rfl (by decide +kernel) (by intro c a d v w h; cases d <;> exact h) (fun w => Y.idx rfl rfl rfl el29 (by omega) (by omega)) rfl rfl rfl ?_
        refine Jw.takeR 20 rfl (by decide +kernel) (by intro c a d v w h; cases d <;> exact h) (Y.loadI rfl rfl sc3 (by repeat (first | exact .head _ | refine .tail _ ?_)) (i : Int) (by omega) (by omega) rfl) rfl rfl rfl ?_
        refine Jw.take 21 rfl (by decide +kernel) (by intro c a d v w h; cases d <;> exact h) (fun w => Y.mv rfl rfl) rfl rfl rfl ?_
        refine Jw.take 22 rfl (by decide +kernel) (by intro c a d v w h; cases d <;> exact h) (fun w => Y.cmpF rfl rfl rfl rfl (by omega)) rfl rfl rfl ?_
        refine Jw.take 23 rfl (by decide +kernel) (by intro c a d v w h; cases d <;> exact h) (fun w => Y.pickF rfl rfl rfl) rfl rfl rfl ?_
        refine Jw.done (by decide +kernel) (Ej.go ?_ (fun _ _ h => h))
        repeat (first
    | (apply gateO; first
      | refine Jl.yd (Y.mv rfl rfl) rfl rfl rfl ?_
      | refine Jl.yd (Y.asg rfl rfl) rfl rfl rfl ?_
      | refine Jl.yd (Y.ext rfl rfl rfl) rfl rfl rfl ?_
      | refine Jl.yd (Y.pickT rfl rfl rfl) rfl rfl rfl ?_
      | refine Jl.yd (Y.pickF rfl rfl rfl) rfl rfl rfl ?_
      | refine Jl.off rfl rfl rfl ?_
      | refine Jl.yd (Y.cmpF rfl rfl rfl rfl (by omega)) rfl rfl rfl ?_
      | refine Jl.yd (Y.cmpT rfl rfl rfl rfl (by omega)) rfl rfl rfl ?_
      | refine Jl.yd (Y.neqB rfl rfl rfl Try.underlying4) rfl rfl rfl ?_
      | refine Jl.yd (Y.cmp rfl rfl rfl rfl) rfl rfl rfl ?_
      | refine Jl.yd (Y.not rfl rfl) rfl rfl rfl ?_
      | refine Jl.yd (Y.arithN rfl rfl rfl rfl (by omega)) rfl rfl rfl ?_
      | refine Jl.yd (Y.arith64 rfl rfl rfl rfl) rfl rfl rfl ?_
      | refine Jl.yd (Y.lenS Try.underlying25 rfl rfl rfl) rfl rfl rfl ?_
      | refine Jl.yd (Y.lenS Try.underlying29 rfl rfl rfl) rfl rfl rfl ?_
      | refine Jl.splitG rfl rfl (fun h => ?_) (fun h => ?_))
    | (apply gateE; first
      | refine Jl.nil (Ej.go ?_ (fun _ _ h => h))
      | (refine Jl.nil (Ej.back (fun _ _ h => h) (by repeat (first | exact .refl | apply DropTo.tail)) ?_); repeat (first | exact trivial | refine ⟨rfl, ?_⟩)))
    | (apply gateC; first
      | refine Cj.block rfl ?_
      | refine Cj.condF rfl rfl (Cj.skip rfl (Ej.go ?_ (fun _ _ h => h)))
      | (refine Cj.condF rfl rfl (Cj.skip rfl (Ej.back (fun _ _ h => h) (by repeat (first | exact .refl | apply DropTo.tail)) ?_)); repeat (first | exact trivial | refine ⟨rfl, ?_⟩))
      | refine Cj.condF rfl rfl ?_
      | refine Cj.condT rfl rfl ?_
      | refine Cj.exit rfl (Ej.go ?_ (fun _ _ h => h))
      | refine Cj.cond rfl rfl (fun h => ?_) (fun h => ?_)
      | refine Cj.skip rfl (Ej.go ?_ (fun _ _ h => h))
      | (refine Cj.skip rfl (Ej.back (fun _ _ h => h) (by repeat (first | exact .refl | apply DropTo.tail)) ?_); repeat (first | exact trivial | refine ⟨rfl, ?_⟩))
      | refine Cj.seq rfl ?_
      | refine Cj.region rfl ?_))
        refine Jl.nil (Ej.cutP (ι := Nat × Int × Int) _ _ _ _ (fun _ _ h => h) (i + 1, E.getD ((i : Int)).toNat 0, wo + x.f2) ⟨⟨by dsimp only; omega, hN⟩, by dsimp only; omega⟩ ⟨rfl, rfl, rfl, rfl, rfl, rfl, rfl, rfl, rfl, rfl, rfl, rfl, trivial⟩ (by repeat (first | exact .nil | refine Pick.cons (by repeat (first | exact .z | apply OutAt.s)) ?_)) (fun p hp => hp))
      · have hN : (en, wo) = ew jobs plan E (a : Int) (i + 1) := by
          show _ = (if nth plan i 0 = (a : Int) then (nth E i 0, (ew jobs plan E (a : Int) i).2 + (nth jobs i z51).f2) else ew jobs plan E (a : Int) i)
          rw [if_neg (by rw [← hpn]; exact e)]
          exact hst
        repeat (first
    | (apply gateO; first
      | refine Jl.yd (Y.mv rfl rfl) rfl rfl rfl ?_
      | refine Jl.yd (Y.asg rfl rfl) rfl rfl rfl ?_
      | refine Jl.yd (Y.ext rfl rfl rfl) rfl rfl rfl ?_
      | refine Jl.yd (Y.pickT rfl rfl rfl) rfl rfl rfl ?_
      | refine Jl.yd (Y.pickF rfl rfl rfl) rfl rfl rfl ?_
      | refine Jl.off rfl rfl rfl ?_
      | refine Jl.yd (Y.cmpF rfl rfl rfl rfl (by omega)) rfl rfl rfl ?_
      | refine Jl.yd (Y.cmpT rfl rfl rfl rfl (by omega)) rfl rfl rfl ?_
      | refine Jl.yd (Y.neqB rfl rfl rfl Try.underlying4) rfl rfl rfl ?_
      | refine Jl.yd (Y.cmp rfl rfl rfl rfl) rfl rfl rfl ?_
      | refine Jl.yd (Y.not rfl rfl) rfl rfl rfl ?_
      | refine Jl.yd (Y.arithN rfl rfl rfl rfl (by omega)) rfl rfl rfl ?_
      | refine Jl.yd (Y.arith64 rfl rfl rfl rfl) rfl rfl rfl ?_
      | refine Jl.yd (Y.lenS Try.underlying25 rfl rfl rfl) rfl rfl rfl ?_
      | refine Jl.yd (Y.lenS Try.underlying29 rfl rfl rfl) rfl rfl rfl ?_
      | refine Jl.yd (Y.idx rfl rfl rfl el29 (by omega) (by omega)) rfl rfl rfl ?_
      | refine Jl.yd (Y.loadI rfl rfl sc3 (by repeat (first | exact .head _ | refine .tail _ ?_)) (i : Int) (by omega) (by omega) rfl) rfl rfl rfl ?_
      | refine Jl.yd (Y.idx rfl rfl rfl el25 (by omega) (by omega)) rfl rfl rfl ?_
      | refine Jl.yd (Y.fld rfl rfl fld51_2) rfl rfl rfl ?_
      | refine Jl.yd (Y.loadK1 z51 [.int .i64 x.f0, .int .i64 x.f1, .int .i64 x.f2, .int .i64 x.f3, .int .i64 x.f4] rfl rfl sc3 (by repeat (first | exact .head _ | refine .tail _ ?_)) (i : Int) 2 (by omega) (by omega) (by rfl) (fun w cs h => (k51_open h).trans hus) rfl) rfl rfl rfl ?_
      | refine Jl.splitG rfl rfl (fun h => ?_) (fun h => ?_))
    | (apply gateE; first
      | refine Jl.nil (Ej.go ?_ (fun _ _ h => h))
      | (refine Jl.nil (Ej.back (fun _ _ h => h) (by repeat (first | exact .refl | apply DropTo.tail)) ?_); repeat (first | exact trivial | refine ⟨rfl, ?_⟩)))
    | (apply gateC; first
      | refine Cj.block rfl ?_
      | refine Cj.condF rfl rfl (Cj.skip rfl (Ej.go ?_ (fun _ _ h => h)))
      | (refine Cj.condF rfl rfl (Cj.skip rfl (Ej.back (fun _ _ h => h) (by repeat (first | exact .refl | apply DropTo.tail)) ?_)); repeat (first | exact trivial | refine ⟨rfl, ?_⟩))
      | refine Cj.condF rfl rfl ?_
      | refine Cj.condT rfl rfl ?_
      | refine Cj.exit rfl (Ej.go ?_ (fun _ _ h => h))
      | refine Cj.cond rfl rfl (fun h => ?_) (fun h => ?_)
      | refine Cj.skip rfl (Ej.go ?_ (fun _ _ h => h))
      | (refine Cj.skip rfl (Ej.back (fun _ _ h => h) (by repeat (first | exact .refl | apply DropTo.tail)) ?_); repeat (first | exact trivial | refine ⟨rfl, ?_⟩))
      | refine Cj.seq rfl ?_
      | refine Cj.region rfl ?_))
        refine Cj.regionJ rfl [] mixed ?_
        refine Jw.take 0 rfl (by decide +kernel) (by intro c a d v w h; cases d <;> exact h) (fun w => Y.mv rfl rfl) rfl rfl rfl ?_
        refine Jw.take 1 rfl (by decide +kernel) (by intro c a d v w h; cases d <;> exact h) (fun w => Y.mv rfl rfl) rfl rfl rfl ?_
        refine Jw.take 4 rfl (by decide +kernel) (by intro c a d v w h; cases d <;> exact h) (fun w => Y.mv rfl rfl) rfl rfl rfl ?_
        refine Jw.take 5 rfl (by decide +kernel) (by intro c a d v w h; cases d <;> exact h) (fun w => Y.mv rfl rfl) rfl rfl rfl ?_
        refine Jw.take 9 rfl (by decide +kernel) (by intro c a d v w h; cases d <;> exact h) (fun w => Y.mv rfl rfl) rfl rfl rfl ?_
        refine Jw.take 10 rfl (by decide +kernel) (by intro c a d v w h; cases d <;> exact h) (fun w => Y.mv rfl rfl) rfl rfl rfl ?_
        refine Jw.take 2 rfl (by decide +kernel) (by intro c a d v w h; cases d <;> exact h) (fun w => Y.idx rfl rfl rfl el29 (by omega) (by omega)) rfl rfl rfl ?_
        refine Jw.take 6 rfl (by decide +kernel) (by intro c a d v w h; cases d <;> exact h) (fun w => Y.idx rfl rfl rfl el25 (by omega) (by omega)) rfl rfl rfl ?_
        refine Jw.take 11 rfl (by decide +kernel) (by intro c a d v w h; cases d <;> exact h) (fun w => Y.idx rfl rfl rfl el25 (by omega) (by omega)) rfl rfl rfl ?_
        refine Jw.take 7 rfl (by decide +kernel) (by intro c a d v w h; cases d <;> exact h) (fun w => Y.fld rfl rfl fld51_3) rfl rfl rfl ?_
        refine Jw.take 12 rfl (by decide +kernel) (by intro c a d v w h; cases d <;> exact h) (fun w => Y.fld rfl rfl fld51_2) rfl rfl rfl ?_
        refine Jw.takeR 3 rfl (by decide +kernel) (by intro c a d v w h; cases d <;> exact h) (Y.loadI rfl rfl sc3 (by repeat (first | exact .head _ | refine .tail _ ?_)) (i : Int) (by omega) (by omega) rfl) rfl rfl rfl ?_
        refine Jw.takeR 8 rfl (by decide +kernel) (by intro c a d v w h; cases d <;> exact h) (Y.loadK1 z51 [.int .i64 x.f0, .int .i64 x.f1, .int .i64 x.f2, .int .i64 x.f3, .int .i64 x.f4] rfl rfl sc3 (by repeat (first | exact .head _ | refine .tail _ ?_)) (i : Int) 3 (by omega) (by omega) (by rfl) (fun w cs h => (k51_open h).trans hus) rfl) rfl rfl rfl ?_
        refine Jw.takeR 13 rfl (by decide +kernel) (by intro c a d v w h; cases d <;> exact h) (Y.loadK1 z51 [.int .i64 x.f0, .int .i64 x.f1, .int .i64 x.f2, .int .i64 x.f3, .int .i64 x.f4] rfl rfl sc3 (by repeat (first | exact .head _ | refine .tail _ ?_)) (i : Int) 2 (by omega) (by omega) (by rfl) (fun w cs h => (k51_open h).trans hus) rfl) rfl rfl rfl ?_
        refine Jw.take 14 rfl (by decide +kernel) (by intro c a d v w h; cases d <;> exact h) (fun w => Y.arithN rfl rfl rfl rfl (by omega)) rfl rfl rfl ?_
        refine Jw.take 15 rfl (by decide +kernel) (by intro c a d v w h; cases d <;> exact h) (fun w => Y.cmpF rfl rfl rfl rfl (by omega)) rfl rfl rfl ?_
        refine Jw.take 16 rfl (by decide +kernel) (by intro c a d v w h; cases d <;> exact h) (fun w => Y.mv rfl rfl) rfl rfl rfl ?_
        refine Jw.take 17 rfl (by decide +kernel) (by intro c a d v w h; cases d <;> exact h) (fun w => Y.mv rfl rfl) rfl rfl rfl ?_
        refine Jw.take 18 rfl (by decide +kernel) (by intro c a d v w h; cases d <;> exact h) (fun w => Y.mv rfl rfl) rfl rfl rfl ?_
        refine Jw.take 19 rfl (by decide +kernel) (by intro c a d v w h; cases d <;> exact h) (fun w => Y.idx rfl rfl rfl el29 (by omega) (by omega)) rfl rfl rfl ?_
        refine Jw.takeR 20 rfl (by decide +kernel) (by intro c a d v w h; cases d <;> exact h) (Y.loadI rfl rfl sc3 (by repeat (first | exact .head _ | refine .tail _ ?_)) (i : Int) (by omega) (by omega) rfl) rfl rfl rfl ?_
        refine Jw.take 21 rfl (by decide +kernel) (by intro c a d v w h; cases d <;> exact h) (fun w => Y.mv rfl rfl) rfl rfl rfl ?_
        refine Jw.take 22 rfl (by decide +kernel) (by intro c a d v w h; cases d <;> exact h) (fun w => Y.cmpF rfl rfl rfl rfl (by omega)) rfl rfl rfl ?_
        refine Jw.take 23 rfl (by decide +kernel) (by intro c a d v w h; cases d <;> exact h) (fun w => Y.pickF rfl rfl rfl) rfl rfl rfl ?_
        refine Jw.done (by decide +kernel) (Ej.go ?_ (fun _ _ h => h))
        repeat (first
    | (apply gateO; first
      | refine Jl.yd (Y.mv rfl rfl) rfl rfl rfl ?_
      | refine Jl.yd (Y.asg rfl rfl) rfl rfl rfl ?_
      | refine Jl.yd (Y.ext rfl rfl rfl) rfl rfl rfl ?_
      | refine Jl.yd (Y.pickT rfl rfl rfl) rfl rfl rfl ?_
      | refine Jl.yd (Y.pickF rfl rfl rfl) rfl rfl rfl ?_
      | refine Jl.off rfl rfl rfl ?_
      | refine Jl.yd (Y.cmpF rfl rfl rfl rfl (by omega)) rfl rfl rfl ?_
      | refine Jl.yd (Y.cmpT rfl rfl rfl rfl (by omega)) rfl rfl rfl ?_
      | refine Jl.yd (Y.neqB rfl rfl rfl Try.underlying4) rfl rfl rfl ?_
      | refine Jl.yd (Y.cmp rfl rfl rfl rfl) rfl rfl rfl ?_
      | refine Jl.yd (Y.not rfl rfl) rfl rfl rfl ?_
      | refine Jl.yd (Y.arithN rfl rfl rfl rfl (by omega)) rfl rfl rfl ?_
      | refine Jl.yd (Y.arith64 rfl rfl rfl rfl) rfl rfl rfl ?_
      | refine Jl.yd (Y.lenS Try.underlying25 rfl rfl rfl) rfl rfl rfl ?_
      | refine Jl.yd (Y.lenS Try.underlying29 rfl rfl rfl) rfl rfl rfl ?_
      | refine Jl.splitG rfl rfl (fun h => ?_) (fun h => ?_))
    | (apply gateE; first
      | refine Jl.nil (Ej.go ?_ (fun _ _ h => h))
      | (refine Jl.nil (Ej.back (fun _ _ h => h) (by repeat (first | exact .refl | apply DropTo.tail)) ?_); repeat (first | exact trivial | refine ⟨rfl, ?_⟩)))
    | (apply gateC; first
      | refine Cj.block rfl ?_
      | refine Cj.condF rfl rfl (Cj.skip rfl (Ej.go ?_ (fun _ _ h => h)))
      | (refine Cj.condF rfl rfl (Cj.skip rfl (Ej.back (fun _ _ h => h) (by repeat (first | exact .refl | apply DropTo.tail)) ?_)); repeat (first | exact trivial | refine ⟨rfl, ?_⟩))
      | refine Cj.condF rfl rfl ?_
      | refine Cj.condT rfl rfl ?_
      | refine Cj.exit rfl (Ej.go ?_ (fun _ _ h => h))
      | refine Cj.cond rfl rfl (fun h => ?_) (fun h => ?_)
      | refine Cj.skip rfl (Ej.go ?_ (fun _ _ h => h))
      | (refine Cj.skip rfl (Ej.back (fun _ _ h => h) (by repeat (first | exact .refl | apply DropTo.tail)) ?_); repeat (first | exact trivial | refine ⟨rfl, ?_⟩))
      | refine Cj.seq rfl ?_
      | refine Cj.region rfl ?_))
        refine Jl.nil (Ej.cutP (ι := Nat × Int × Int) _ _ _ _ (fun _ _ h => h) (i + 1, en, wo) ⟨⟨by dsimp only; omega, hN⟩, by dsimp only; omega⟩ ⟨rfl, rfl, rfl, rfl, rfl, rfl, rfl, rfl, rfl, rfl, rfl, rfl, trivial⟩ (by repeat (first | exact .nil | refine Pick.cons (by repeat (first | exact .z | apply OutAt.s)) ?_)) (fun p hp => hp))
    · obtain rfl : i = jobs.length := by omega
      rw [← hst] at hea ⊢
      dsimp only at hea ⊢
      repeat (first
    | (apply gateO; first
      | refine Jl.yd (Y.mv rfl rfl) rfl rfl rfl ?_
      | refine Jl.yd (Y.asg rfl rfl) rfl rfl rfl ?_
      | refine Jl.yd (Y.ext rfl rfl rfl) rfl rfl rfl ?_
      | refine Jl.yd (Y.pickT rfl rfl rfl) rfl rfl rfl ?_
      | refine Jl.yd (Y.pickF rfl rfl rfl) rfl rfl rfl ?_
      | refine Jl.off rfl rfl rfl ?_
      | refine Jl.yd (Y.cmpF rfl rfl rfl rfl (by omega)) rfl rfl rfl ?_
      | refine Jl.yd (Y.cmpT rfl rfl rfl rfl (by omega)) rfl rfl rfl ?_
      | refine Jl.yd (Y.neqB rfl rfl rfl Try.underlying4) rfl rfl rfl ?_
      | refine Jl.yd (Y.cmp rfl rfl rfl rfl) rfl rfl rfl ?_
      | refine Jl.yd (Y.not rfl rfl) rfl rfl rfl ?_
      | refine Jl.yd (Y.arithN rfl rfl rfl rfl (by omega)) rfl rfl rfl ?_
      | refine Jl.yd (Y.arith64 rfl rfl rfl rfl) rfl rfl rfl ?_
      | refine Jl.yd (Y.lenS Try.underlying25 rfl rfl rfl) rfl rfl rfl ?_
      | refine Jl.yd (Y.lenS Try.underlying29 rfl rfl rfl) rfl rfl rfl ?_
      | refine Jl.splitG rfl rfl (fun h => ?_) (fun h => ?_))
    | (apply gateE; first
      | refine Jl.nil (Ej.go ?_ (fun _ _ h => h))
      | (refine Jl.nil (Ej.back (fun _ _ h => h) (by repeat (first | exact .refl | apply DropTo.tail)) ?_); repeat (first | exact trivial | refine ⟨rfl, ?_⟩)))
    | (apply gateC; first
      | refine Cj.block rfl ?_
      | refine Cj.condF rfl rfl (Cj.skip rfl (Ej.go ?_ (fun _ _ h => h)))
      | (refine Cj.condF rfl rfl (Cj.skip rfl (Ej.back (fun _ _ h => h) (by repeat (first | exact .refl | apply DropTo.tail)) ?_)); repeat (first | exact trivial | refine ⟨rfl, ?_⟩))
      | refine Cj.condF rfl rfl ?_
      | refine Cj.condT rfl rfl ?_
      | refine Cj.exit rfl (Ej.go ?_ (fun _ _ h => h))
      | refine Cj.cond rfl rfl (fun h => ?_) (fun h => ?_)
      | refine Cj.skip rfl (Ej.go ?_ (fun _ _ h => h))
      | (refine Cj.skip rfl (Ej.back (fun _ _ h => h) (by repeat (first | exact .refl | apply DropTo.tail)) ?_); repeat (first | exact trivial | refine ⟨rfl, ?_⟩))
      | refine Cj.seq rfl ?_
      | refine Cj.region rfl ?_))
      refine Jl.nil (Ej.cutP (ι := Nat) _ _ _ _ (fun _ _ h => h) (a + 1) ⟨by omega, by omega⟩ ⟨rfl, rfl, rfl, rfl, rfl, rfl, rfl, trivial⟩ (by repeat (first | exact .nil | refine Pick.cons (by repeat (first | exact .z | apply OutAt.s)) ?_)) (fun p hp => hp))
  · obtain rfl : a = looms.length := by omega
    repeat (first
    | (apply gateO; first
      | refine Jl.yd (Y.mv rfl rfl) rfl rfl rfl ?_
      | refine Jl.yd (Y.asg rfl rfl) rfl rfl rfl ?_
      | refine Jl.yd (Y.ext rfl rfl rfl) rfl rfl rfl ?_
      | refine Jl.yd (Y.pickT rfl rfl rfl) rfl rfl rfl ?_
      | refine Jl.yd (Y.pickF rfl rfl rfl) rfl rfl rfl ?_
      | refine Jl.off rfl rfl rfl ?_
      | refine Jl.yd (Y.cmpF rfl rfl rfl rfl (by omega)) rfl rfl rfl ?_
      | refine Jl.yd (Y.cmpT rfl rfl rfl rfl (by omega)) rfl rfl rfl ?_
      | refine Jl.yd (Y.neqB rfl rfl rfl Try.underlying4) rfl rfl rfl ?_
      | refine Jl.yd (Y.cmp rfl rfl rfl rfl) rfl rfl rfl ?_
      | refine Jl.yd (Y.not rfl rfl) rfl rfl rfl ?_
      | refine Jl.yd (Y.arithN rfl rfl rfl rfl (by omega)) rfl rfl rfl ?_
      | refine Jl.yd (Y.arith64 rfl rfl rfl rfl) rfl rfl rfl ?_
      | refine Jl.yd (Y.lenS Try.underlying25 rfl rfl rfl) rfl rfl rfl ?_
      | refine Jl.yd (Y.lenS Try.underlying29 rfl rfl rfl) rfl rfl rfl ?_
      | refine Jl.draw3 (fun v0 v1 v2 => .tuple #[v0, v1, v2, .int .i64 d1]) jobs looms plan rfl rfl rfl rfl en41 rfl (fun w hW => by with_reducible exact spec_DrawIdleDays.calls k2 A0 c0 l0 jobs looms plan d1 w (hW.fact (p := (fun W => (Kd.int .u8).C W A0 l0.length l0)) (by repeat (first | exact memH | refine memT ?_))) hc0 hD2) (fun Aj2 cj2 Am2 cm2 Ap2 cp2 hj2 hm2 hp2 => ?_)
      | refine Jl.call1 (v := .tuple #[.int .i64 u, .bool tb]) rfl rfl rfl rfl en29 rfl (fun w hW => by with_reducible exact impl_IdleDays.calls kd Aj2 cj2 jobs Am2 cm2 looms Ap2 cp2 plan d1 u tb w (hW.fact (p := (fun W => Kd.C k51 W Aj2 jobs.length jobs)) (by repeat (first | exact memH | refine memT ?_))) hj2 (hW.fact (p := (fun W => (Kd.int .i64).C W Am2 looms.length looms)) (by repeat (first | exact memH | refine memT ?_))) hm2 (hW.fact (p := (fun W => (Kd.int .i64).C W Ap2 plan.length plan)) (by repeat (first | exact memH | refine memT ?_))) hp2 h29) ?_
      | refine Jl.call1 (v := .tuple #[.int .i64 u, .bool tb]) rfl rfl rfl rfl en28 rfl (fun w hW => by with_reducible exact spec_IdleDays.calls ke Aj2 cj2 jobs Am2 cm2 looms Ap2 cp2 plan d1 u tb w (hW.fact (p := (fun W => Kd.C k51 W Aj2 jobs.length jobs)) (by repeat (first | exact memH | refine memT ?_))) hj2 (hW.fact (p := (fun W => (Kd.int .i64).C W Am2 looms.length looms)) (by repeat (first | exact memH | refine memT ?_))) hm2 (hW.fact (p := (fun W => (Kd.int .i64).C W Ap2 plan.length plan)) (by repeat (first | exact memH | refine memT ?_))) hp2 h28) ?_
      | refine Jl.draw3 (fun v0 v1 v2 => .tuple #[v0, v1, v2, .int .i64 d2]) jobs looms plan rfl rfl rfl rfl en42 rfl (fun w hW => by with_reducible exact spec_DrawFreeBefore.calls k3 A0 c0 l0 jobs looms plan d2 w (hW.fact (p := (fun W => (Kd.int .u8).C W A0 l0.length l0)) (by repeat (first | exact memH | refine memT ?_))) hc0 hD3) (fun Aj3 cj3 Am3 cm3 Ap3 cp3 hj3 hm3 hp3 => ?_)
      | refine Jl.draw1 (fun v => .tuple #[v, .bool fb]) G rfl rfl rfl rfl en37 rfl (fun w hW => by with_reducible exact impl_FreeBefore.calls kf Aj3 cj3 jobs Am3 cm3 looms Ap3 cp3 plan d2 G fb w (hW.fact (p := (fun W => Kd.C k51 W Aj3 jobs.length jobs)) (by repeat (first | exact memH | refine memT ?_))) hj3 (hW.fact (p := (fun W => (Kd.int .i64).C W Am3 looms.length looms)) (by repeat (first | exact memH | refine memT ?_))) hm3 (hW.fact (p := (fun W => (Kd.int .i64).C W Ap3 plan.length plan)) (by repeat (first | exact memH | refine memT ?_))) hp3 h37) (fun Ag cg hg => ?_)
      | refine Jl.draw1 (fun v => .tuple #[v, .bool fb]) G rfl rfl rfl rfl en36 rfl (fun w hW => by with_reducible exact spec_FreeBefore.calls kg Aj3 cj3 jobs Am3 cm3 looms Ap3 cp3 plan d2 G fb w (hW.fact (p := (fun W => Kd.C k51 W Aj3 jobs.length jobs)) (by repeat (first | exact memH | refine memT ?_))) hj3 (hW.fact (p := (fun W => (Kd.int .i64).C W Am3 looms.length looms)) (by repeat (first | exact memH | refine memT ?_))) hm3 (hW.fact (p := (fun W => (Kd.int .i64).C W Ap3 plan.length plan)) (by repeat (first | exact memH | refine memT ?_))) hp3 h36) (fun Aq cq hq => ?_)
      | refine Jl.call1 (v := .bool true) rfl rfl rfl rfl en40 rfl (fun w hW => by with_reducible exact vI_ kh Ag cg G Aq cq G true w (hW.fact (p := (fun W => (Kd.int .i64).C W Ag G.length G)) (by repeat (first | exact memH | refine memT ?_))) hg (hW.fact (p := (fun W => (Kd.int .i64).C W Aq G.length G)) (by repeat (first | exact memH | refine memT ?_))) hq hG) ?_
      | refine Jl.yd (eqBB rfl rfl rfl Try.underlying4) rfl rfl rfl ?_
      | refine Jl.splitG rfl rfl (fun h => ?_) (fun h => ?_))
    | (apply gateE; first
      | refine Jl.nil (Ej.go ?_ (fun _ _ h => h))
      | (refine Jl.nil (Ej.back (fun _ _ h => h) (by repeat (first | exact .refl | apply DropTo.tail)) ?_); repeat (first | exact trivial | refine ⟨rfl, ?_⟩)))
    | (apply gateC; first
      | refine Cj.block rfl ?_
      | refine Cj.ret rfl (Ej.out1 (P := Try.prog) (fn := Try.f11) (R := Rr) (fun _ _ h => h) rfl rfl (fun w' hW => ⟨rfl, hW.below⟩))
      | refine Cj.condF rfl rfl (Cj.skip rfl (Ej.go ?_ (fun _ _ h => h)))
      | (refine Cj.condF rfl rfl (Cj.skip rfl (Ej.back (fun _ _ h => h) (by repeat (first | exact .refl | apply DropTo.tail)) ?_)); repeat (first | exact trivial | refine ⟨rfl, ?_⟩))
      | refine Cj.condF rfl rfl ?_
      | refine Cj.condT rfl rfl ?_
      | refine Cj.exit rfl (Ej.go ?_ (fun _ _ h => h))
      | refine Cj.cond rfl rfl (fun h => ?_) (fun h => ?_)
      | refine Cj.skip rfl (Ej.go ?_ (fun _ _ h => h))
      | (refine Cj.skip rfl (Ej.back (fun _ _ h => h) (by repeat (first | exact .refl | apply DropTo.tail)) ?_); repeat (first | exact trivial | refine ⟨rfl, ?_⟩))
      | refine Cj.seq rfl ?_
      | refine Cj.region rfl ?_))
theorem vIntsE (l : List Int) (hm : l.length ≤ 1048576) : Ev (fun k => laws_vInts.f k l l) true := by
  unfold laws_vInts.f
  simp only [if_true]
  have h := scanE l.length (fun _ => true) true false (fun k i => laws_vInts.l0 k l l i) ?hs ?hb ?he
  case hs =>
    intro i r hi _ hr
    refine Ev.succ ?_
    simp only [laws_vInts.l0, if_pos (show (i : Int) < (l.length : Int) by omega), if_pos (show (0 : Int) ≤ (i : Int) by omega), if_true, stepI i (by omega)]
    exact hr
  case hb => intro i _ h; cases h
  case he =>
    refine Ev.succ ?_
    simp only [laws_vInts.l0, if_neg (show ¬ ((l.length : Int) < (l.length : Int)) by omega)]
    exact Ev.now _
  simpa using h
/-- All days of a loom are woven or idle, and all looms are free at the last end: for every code that is drawn from. -/
theorem FnLoomDays_calls (l0 : List Int) (A0 : Option Addr) (c0 : Nat) (w : World) (hr0 : Kd.C (Kd.int .u8) w A0 l0.length l0) (hc0 : l0.length ≤ c0) (q0 : (l0.length ≤ maxLen ∧ ∀ x ∈ l0, (Lit.int .u8 x).wf = true)) : Calls Try.prog 11 #[.slice A0 l0.length c0] w fun e w' => e = .returned (.bool true) ∧ Below w.heap.size w w' := by
  by_cases hbig : (l0.length : Int) > 65536
  · exact walkB l0 A0 c0 w hr0 hc0 (by unfold laws_vBig.f; rw [decide_eq_true hbig])
  have hl : CodeL l0 := code_of q0.2 (by omega)
  have hb0 : laws_vBig.f l0 = some false := by unfold laws_vBig.f; rw [decide_eq_false hbig]
  obtain ⟨jobs, looms, plan, d1, d2, lj, lm, lp, e1, e2, e3⟩ := drawAll hl
  obtain ⟨k1, hD1⟩ := e1.rounds
  obtain ⟨k2, hD2⟩ := e2.rounds
  obtain ⟨k3, hD3⟩ := e3.rounds
  have hj : jobs.length ≤ 1048576 := by omega
  have hm : looms.length ≤ 1048576 := by omega
  obtain ⟨⟨u, tb⟩, g28, g29⟩ := idleBoth jobs looms plan d1 hj hm
  obtain ⟨⟨G, fb⟩, hGl, g36, g37⟩ := beforeBoth jobs looms plan d2 hj hm
  obtain ⟨kd, h29⟩ := g29.rounds
  obtain ⟨ke, h28⟩ := g28.rounds
  obtain ⟨kf, h37⟩ := g37.rounds
  obtain ⟨kg, h36⟩ := g36.rounds
  obtain ⟨kh, hG⟩ := (vIntsE G hGl).rounds
  obtain ⟨g34, g35⟩ := endsVal jobs looms plan hj hm
  by_cases h : asked jobs looms plan = true
  · rw [if_pos h] at g34 g35
    obtain ⟨ka, h35⟩ := g35.rounds
    obtain ⟨kb, h34⟩ := g34.rounds
    obtain ⟨b1, ⟨b2, b2'⟩, b3, bj, bq⟩ := asked_at h
    obtain ⟨last, hlb, hlF, hlE, gl⟩ := lastYes jobs looms plan hj hm h
    obtain ⟨R, hRl, gR⟩ := beforeYes jobs looms plan last hj hm h (by omega) hlF
    obtain ⟨kl, h33⟩ := gl.rounds
    obtain ⟨kr, hR⟩ := gR.rounds
    obtain ⟨c1, c2⟩ := daysOf jobs looms plan h
    have hEl := (sEnds jobs looms plan h).2.1
    obtain ⟨kc, h40⟩ := (vIntsE (endsOf jobs looms plan).1 (by omega)).rounds
    have hjb : ∀ i, i < jobs.length → (0 ≤ (nth jobs i z51).f2 ∧ (nth jobs i z51).f2 ≤ 400) ∧ (0 ≤ (nth jobs i z51).f3 ∧ (nth jobs i z51).f3 ≤ 4000) := fun i hi => by
      have hok := bj i hi
      unfold okJ okF at hok
      have hok := of_decide_eq_true hok
      omega
    have hwb : ∀ (a : Int) (i : Nat), i ≤ jobs.length → 0 ≤ (ew jobs plan (endsOf jobs looms plan).1 a i).2 ∧ (ew jobs plan (endsOf jobs looms plan).1 a i).2 ≤ 400 * (i : Int) := by
      intro a i
      induction i with
      | zero => intro _; simp [ew]
      | succ i ih =>
        intro hi
        have := ih (by omega)
        have := hjb i (by omega)
        unfold ew
        split
        · dsimp only; omega
        · omega
    refine walkY l0 A0 c0 w hr0 hc0 hb0 jobs looms plan d1 d2 k1 k2 k3 ka kb kc kd ke kf kg kh hD1 hD2 hD3 _ h40 u tb h29 h28 G fb h37 h36 hG h35 h34 last kl h33 R kr hR hRl b3 (hEl.trans b3) b1 b2' (fun a ha => ?_) (fun a ha => ?_) hwb (fun i hi => ?_)
    · have := (idleYes jobs looms plan a hj hm h ha).rounds
      rw [b3] at this
      exact this
    · have := (c1 a ha).2
      rw [b3] at this
      exact this
    · exact ⟨(hjb i hi).1, (hjb i hi).2, (c2 i (by omega)).1, hlE i (by omega)⟩
  · rw [if_neg h] at g34 g35
    obtain ⟨ka, h35⟩ := g35.rounds
    obtain ⟨kb, h34⟩ := g34.rounds
    obtain ⟨kc, h40⟩ := (vIntsE [] (by simp)).rounds
    exact walkN l0 A0 c0 w hr0 hc0 hb0 jobs looms plan d1 d2 k1 k2 k3 ka kb kc kd ke kf kg kh hD1 hD2 hD3 [] h40 u tb h29 h28 G fb h37 h36 hG h35 h34
end LD
end Go.Proofs.Ytcgpibbbkdhpeaa.WK

namespace Go.Proofs.Ytcgpibbbkdhpeaa.fnLoomDays
open Go.ChangeShapes Go.WideShapes Go.ChangeAt Go.RowKit Go.Proofs.Ytcgpibbbkdhpeaa.Q Go.Proofs.YtcgpibbbkdhpeaaW.Open Go.Proofs.YtcgpibbbkdhpeaaW.PrintWords
set_option linter.unusedVariables false
theorem own : ownKnob Try.prog.godebug = none := by kernel_rfl
theorem laidOut : laidOutB Try.prog = true := by kernel_rfl
set_option maxRecDepth 100000 in
theorem lifted (os : Os) (started : os.Started) (H : Type) (enc : TypeId × Value → H) :
    ReturnsInHanded {} Try.checked os 11 .any (Rows.fnLoomDaysSpec.pre6 enc Try.prog Try.f11 Rows.fnLoomDaysRow.domain false) (Rows.fnLoomDaysSpec.post enc Try.prog Try.f11 false true false false) := by
  refine returnsInHanded_of_change_sized (C := Try.checked) own started (by kernel_rfl) Try.func11
    (ChangeSpec.witness6 (enc := enc) (C := Try.checked) false ⟨#[], #[.slice none 0 0], []⟩ 8 (by kernel_rfl) (by kernel_rfl) (by kernel_rfl) (by kernel_rfl)) ?_
  intro W base args ds gs before hval0 hW hcnd hsz0 _
  have hval : ∀ (j : Nat) t v, Try.f11.params[j]? = some t → args[j]? = some v → Value.okWide Try.prog W .any base t v := hval0
  have hW' := hW
  obtain ⟨p, q, hA0, hV, rfl, hfz, hnd⟩ := hW
  have hA : DataW.TrodAll enc Try.prog W 0 (fun _ => true) true Try.f11.params.toList args.toList ds p := hA0
  rw [Try.params11] at hA hval
  obtain ⟨v0, vs0, d0, ds0, p0, q0, hargs, rfl, rfl, h0, r0⟩ := trodAll_cons hA
  obtain ⟨rfl, rfl, rfl⟩ := trodAll_nil r0
  obtain rfl : args = #[v0] := by cases args; simp_all
  obtain ⟨rfl, rfl⟩ := trodVars_none hV
  have k0 := h0
  have lt0 : ∀ x ∈ p0, x.block < W.heap.size := by obtain ⟨m, hm⟩ := k0; exact DataW.trod_lt m _ _ _ hm
  obtain ⟨a0, len0, cap0, rfl⟩ := okWide_slice Try.underlying46 (hval 0 46 v0 rfl rfl)
  obtain ⟨fu0, hf0⟩ := h0
  obtain ⟨x0, ⟨A0, c0, hk0, hc0, hr0⟩, q0⟩ := ((Opn.slice Try.underlying46 (n0 := 1) (by kernel_rfl) rfl (Opn.int Try.underlying5))).out hf0
  simp [Value.cells] at hk0
  obtain ⟨rfl, rfl, rfl⟩ := hk0
  refine (Go.Proofs.Ytcgpibbbkdhpeaa.WK.LD.FnLoomDays_calls x0 _ _ W hr0 hc0 q0).mono fun e W' ⟨he, bel⟩ => ?_
  subst he
  exact ⟨_, rfl, _, _, _, [], _, [], hW', trodAll_mk1 (shut_bool Try.underlying4 _), (trodAll_cons_mk (Below.trod laidOut (by kernel_rfl) (of_decide_eq_true (by kernel_rfl)) k0 bel lt0) trodAll_mk0), rfl, bel.frame _, fun h => by cases h⟩
theorem over : Rows.fnLoomDaysRow.holds Try.pinned (OpenSpec.ofChange Rows.fnLoomDaysSpec) :=
  OpenClaim.holds_of_wide 11 Try.f11 rfl rfl rfl rfl rfl rfl rfl ⟨rfl, rfl, rfl, rfl, rfl⟩ rfl rfl rfl rfl rfl (by kernel_rfl) Try.func11 (by kernel_rfl)
    (of_decide_eq_true (by kernel_rfl)) (by unfold Func.isWrapper; first | (rw [if_pos (by decide +kernel)]; kernel_rfl) | (rw [if_neg (by decide +kernel)]; exact ⟨rfl, rfl⟩))
    (fun os started H enc _ => lifted os started H enc)
theorem proved : Rows.FnLoomDaysSaid := over
end Go.Proofs.Ytcgpibbbkdhpeaa.fnLoomDays
namespace Go.Proofs.Ytcgpibbbkdhpeaa
/-- The row, under a short name, for the claim. -/
theorem fnLoomDays_holds : Rows.FnLoomDaysSaid := fnLoomDays.proved
end Go.Proofs.Ytcgpibbbkdhpeaa

#print axioms Go.Proofs.Ytcgpibbbkdhpeaa.fnLoomDays_holds
