import Derived.Test.YtcgpibbbkdhpeaaProg
import Derived.Below
import Derived.Deep.Draws
import Derived.Deep.AppendLies
import Derived.Maps.AppendAt
import Derived.OwnWalk
import Derived.Laws.BytesArg
import Derived.Laws.MakeOwn
import Derived.Laws.OwnMore
import Derived.Deep.OwnRows
import Derived.Tactics
import Derived.Lib.ConvBytes
import Derived.Laws.Slices
import Derived.WalkKit
import Derived.KernelRfl
import Derived.RowKit3
import Derived.Deep.LoopGhost
import Derived.Deep.QuietTactic
import Derived.BigQuiet
import Derived.WideLaws
import Derived.Deep.DeepCutAuto
import Derived.Deep.CutBlock
import Derived.Deep.RegionHeld3
import Derived.Laws.Rows
import Derived.Lib.AppendStr
import Derived.ArgAppend
import Derived.Laws.IdiomCopy
import Derived.OrdersHeld
import Derived.Laws.BitsLemmas
import Derived.RowKit
import Derived.Deep.Slices
import Derived.ChangeArms
import Derived.DataReads
import Derived.Carry
import Derived.Laws.Tables
import Derived.Lib.OthersKept
import Derived.Test.YtcgpibbbkdhpeaaZFnLoomPlans2
namespace Go.Proofs.Ytcgpibbbkdhpeaa.Q
open Go.RowKit Go.Proofs.YtcgpibbbkdhpeaaW.PrintWords Go.Proofs.YtcgpibbbkdhpeaaW.PrintLast Go.Proofs.YtcgpibbbkdhpeaaW.PrintMore
set_option linter.unusedVariables false
set_option linter.unusedSimpArgs false



def errW : Option Int → Value
 | none => .nilIface
 | some c => .iface 0 (.int .i64 c)
theorem errW_none : errW none = .nilIface := rfl
theorem errW_some (c : Int) : errW (some c) = .iface 0 (.int .i64 c) := rfl

theorem info3 : (Try.prog.info? 3).map (fun i => (i.zero, i.size, i.bytes)) = some (some (.int .i64 0), 1, 8) := by kernel_rfl
theorem info51 : (Try.prog.info? 51).map (fun i => (i.zero, i.size, i.bytes)) = some (some (.agg #[(.int .i64 0), (.int .i64 0), (.int .i64 0), (.int .i64 0), (.int .i64 0)]), 5, 40) := by kernel_rfl
/-! #### struct type 51 -/
structure S51 where
 f0 : Int
 f1 : Int
 f2 : Int
 f3 : Int
 f4 : Int
def z51 : S51 := ⟨(0 : Int), (0 : Int), (0 : Int), (0 : Int), (0 : Int)⟩
def k51 : Kd S51 := Kd.iso (Kd.pair (Kd.int .i64) (Kd.pair (Kd.int .i64) (Kd.pair (Kd.int .i64) (Kd.pair (Kd.int .i64) (Kd.int .i64))))) (fun x : S51 => (x.f0, x.f1, x.f2, x.f3, x.f4))
theorem k51_heap : Kd.Heap k51 := Kd.heap_iso _ (Kd.heap_pair (Kd.heap_int .i64) (Kd.heap_pair (Kd.heap_int .i64) (Kd.heap_pair (Kd.heap_int .i64) (Kd.heap_pair (Kd.heap_int .i64) (Kd.heap_int .i64)))))
theorem k51_open {w : World} {x : S51} {cs : List Value} (h : k51.K w x cs) : cs = [.int .i64 x.f0, .int .i64 x.f1, .int .i64 x.f2, .int .i64 x.f3, .int .i64 x.f4] := by
 obtain ⟨_, _, rfl, rfl, ⟨_, _, rfl, rfl, ⟨_, _, rfl, rfl, ⟨_, _, rfl, rfl, rfl⟩⟩⟩⟩ := h
 exact rfl
theorem k51_mkM (w : World) (base : Nat) (ok : Nat → Prop) (x : S51)  : k51.M w base ok x [.int .i64 x.f0, .int .i64 x.f1, .int .i64 x.f2, .int .i64 x.f3, .int .i64 x.f4] := ⟨[.int .i64 x.f0], [.int .i64 x.f1, .int .i64 x.f2, .int .i64 x.f3, .int .i64 x.f4], rfl, rfl, ⟨[.int .i64 x.f1], [.int .i64 x.f2, .int .i64 x.f3, .int .i64 x.f4], rfl, rfl, ⟨[.int .i64 x.f2], [.int .i64 x.f3, .int .i64 x.f4], rfl, rfl, ⟨[.int .i64 x.f3], [.int .i64 x.f4], rfl, rfl, rfl⟩⟩⟩⟩
def rd_T51 (xs : List S51) (i : Int) : S51 := xs.getD i.toNat z51
theorem at_T51 {w : World} {A : Option Addr} {n : Nat} {xs : List S51} (h : Kd.C k51 w A n xs) (i : Int) (h0 : 0 ≤ i) (h1 : i < n) : ∃ ad , A = some ad ∧ w.cell? (ad.add (i.toNat * 5)) = some (.int .i64 (rd_T51 xs i).f0) ∧ w.cell? ⟨(ad.add (i.toNat * 5)).block, (ad.add (i.toNat * 5)).off + 1, none⟩ = some (.int .i64 (rd_T51 xs i).f1) ∧ w.cell? ⟨(ad.add (i.toNat * 5)).block, (ad.add (i.toNat * 5)).off + 2, none⟩ = some (.int .i64 (rd_T51 xs i).f2) ∧ w.cell? ⟨(ad.add (i.toNat * 5)).block, (ad.add (i.toNat * 5)).off + 3, none⟩ = some (.int .i64 (rd_T51 xs i).f3) ∧ w.cell? ⟨(ad.add (i.toNat * 5)).block, (ad.add (i.toNat * 5)).off + 4, none⟩ = some (.int .i64 (rd_T51 xs i).f4) := by
 obtain ⟨ad, c, e, _, hK, hc0⟩ := Kd.C_get h z51 i h0 h1
 have hc : ∀ j u, c[j]? = some u → w.cell? (ad.add (i.toNat * 5 + j)) = some u := hc0
 obtain rfl := k51_open hK
 exact ⟨ad, e, hc 0 _ rfl, by rw [← add_field _ _ 1 (by omega)]; exact hc 1 _ rfl, by rw [← add_field _ _ 2 (by omega)]; exact hc 2 _ rfl, by rw [← add_field _ _ 3 (by omega)]; exact hc 3 _ rfl, by rw [← add_field _ _ 4 (by omega)]; exact hc 4 _ rfl⟩

end Go.Proofs.Ytcgpibbbkdhpeaa.Q

namespace Go.Proofs.YtcgpibbbkdhpeaaW.Open
open Go.ChangeShapes Go.WideShapes Go.Deep Go.Proofs.YtcgpibbbkdhpeaaW.PrintWords

/-- Whatever reads as data of type t lies in memory as a value of kind d that is good. -/
structure Opn {α : Type} (P : Program) (d : Kd α) (t : TypeId) (good : α → Prop) : Prop where
  out : ∀ {H : Type} {enc : TypeId × Value → H} {w : World} {base : Nat} {spare : Nat → Bool} {held : Bool} {fuel : Nat} {cs : List Value} {x : DataW H × List MemPlace},
    DataW.trod enc P w base spare held fuel t cs = some x → ∃ a, d.K w a cs ∧ good a

/-- One for each place: a list of them. -/
theorem list_of {α : Type} {Q : Nat → α → Prop} : ∀ {len : Nat}, (∀ i, i < len → ∃ p : α, Q i p) → ∃ l : List α, l.length = len ∧ ∀ i p, l[i]? = some p → Q i p
  | 0, _ => ⟨[], rfl, by simp⟩
  | n + 1, h => by
    obtain ⟨l, hl1, hl2⟩ := list_of (len := n) (fun i hi => h i (by omega))
    obtain ⟨p, hp⟩ := h n (by omega)
    refine ⟨l ++ [p], by simp [hl1], fun i q hq => ?_⟩
    by_cases hil : i < n
    · rw [List.getElem?_append_left (by omega)] at hq
      exact hl2 i q hq
    · have hin : i = n := by
        have := (List.getElem?_eq_some_iff.1 hq).1
        simp [hl1] at this
        omega
      subst hin
      rw [List.getElem?_append_right (by omega)] at hq
      simp [hl1] at hq
      subst hq
      exact hp

section
variable {P : Program}
theorem Opn.int {t : TypeId} {k : IntKind} (ht : P.underlying t = some (.int k)) : Opn P (Kd.int k) t (fun n => (Lit.int k n).wf = true) := by
  constructor; intro H enc w base spare held fuel cs x h
  cases fuel with
  | zero => simp [DataW.trod] at h
  | succ m =>
    unfold DataW.trod at h
    rw [ht] at h
    split at h <;> simp_all
    exact ⟨_, rfl, by simp_all⟩
theorem Opn.bool {t : TypeId} (ht : P.underlying t = some .bool) : Opn P Kd.bool t (fun _ => True) := by
  constructor; intro H enc w base spare held fuel cs x h
  cases fuel with
  | zero => simp [DataW.trod] at h
  | succ m =>
    unfold DataW.trod at h
    rw [ht] at h
    split at h
    all_goals first | exact ⟨_, rfl, trivial⟩ | simp_all
theorem Opn.slice {α : Type} {d : Kd α} {t e : TypeId} {g : α → Prop} (ht : P.underlying t = some (.slice e)) {n0 : Nat} (hc0 : P.cellsOf e = n0) (hs0 : d.sz = n0) (he : Opn P d e g) :
    Opn P (Kd.slice e d) t (fun l => l.length ≤ maxLen ∧ ∀ x ∈ l, g x) := by
  have hc : P.cellsOf e = d.sz := hc0.trans hs0.symm
  constructor; intro H enc w base spare held fuel cs x h
  rcases open_slice ht h with ⟨rfl, _⟩ | ⟨a, len, cap, m, n, D, Pl, rfl, _, hl, hm, hmm, _, hi⟩
  · exact ⟨[], ⟨none, 0, rfl, Nat.le_refl _, rfl, by simp, fun h => absurd h (by simp)⟩, by simp, by simp⟩
  · have hlm : len ≤ m := by rw [hmm]; split <;> omega
    have hone : ∀ i, i < len → ∃ p : α, g p ∧ ∃ c, c.length = d.sz ∧ d.K w p c ∧ ∀ j u, c[j]? = some u → w.cell? (a.add (i * d.sz + j)) = some u := by
      intro i hil
      obtain ⟨cs', hcs, htr⟩ := hi i (by omega)
      obtain ⟨p, hp, hg⟩ := he.out htr
      obtain ⟨_, hlen, hat⟩ := World.cells?_some hcs
      refine ⟨p, hg, cs', hlen.trans hc, hp, fun j u hj => ?_⟩
      have hjl : j < P.cellsOf e := by have := (List.getElem?_eq_some_iff.1 hj).1; omega
      have := hat j hjl
      rw [hc] at this
      rw [← Go.Deep.add_add, this, hj]
    have hall := list_of hone
    obtain ⟨l, rfl, hl2⟩ := hall
    refine ⟨l, ⟨some a, cap, rfl, hl, rfl, by unfold maxLen at hm; omega, fun _ => ⟨a, rfl, fun j p hj => (hl2 j p hj).2⟩⟩, by omega, fun x hx => ?_⟩
    obtain ⟨i, hi, rfl⟩ := List.getElem_of_mem hx
    exact (hl2 i _ (List.getElem?_eq_getElem hi)).1
theorem Opn.iso {α β : Type} {d : Kd α} {t : TypeId} {g : α → Prop} (f : β → α) (b : α → β) (hfb : ∀ a, f (b a) = a) (h : Opn P d t g) : Opn P (Kd.iso d f) t (fun x => g (f x)) := by
  constructor; intro H enc w base spare held fuel cs x hx
  obtain ⟨a, hk, hg⟩ := h.out hx
  exact ⟨b a, by show d.K w (f (b a)) cs; rw [hfb]; exact hk, by show g (f (b a)); rw [hfb]; exact hg⟩

def andG {α β : Type} (g : α → Prop) (gs : β → Prop) : α × β → Prop := fun x => g x.1 ∧ gs x.2
/-- The fields of a struct, from one on. -/
structure OpnF {α : Type} (P : Program) (d : Kd α) (off : Nat) (fs : List Field) (good : α → Prop) : Prop where
  out : ∀ {H : Type} {enc : TypeId × Value → H} {w : World} {base : Nat} {spare : Nat → Bool} {held : Bool} {fuel : Nat} {cs : List Value},
    cs.length = off + d.sz → (∀ f ∈ fs, ∃ y, DataW.trod enc P w base spare held fuel f.type ((cs.drop f.offset).take (P.cellsOf f.type)) = some y) → ∃ a, d.K w a (cs.drop off) ∧ good a
theorem OpnF.one {α : Type} {d : Kd α} {f : Field} {g : α → Prop} {off : Nat} (ho : f.offset = off) {n0 : Nat} (hc0 : P.cellsOf f.type = n0) (hs0 : d.sz = n0) (h : Opn P d f.type g) : OpnF P d off [f] g := by
  have hc : P.cellsOf f.type = d.sz := hc0.trans hs0.symm
  constructor; intro H enc w base spare held fuel cs hl hf
  obtain ⟨y, hy⟩ := hf f (by simp)
  rw [ho, hc, List.take_of_length_le (by simp; omega)] at hy
  exact h.out hy
theorem OpnF.cons {α β : Type} {d : Kd α} {ds : Kd β} {f : Field} {fs : List Field} {g : α → Prop} {gs : β → Prop} {off : Nat} (ho : f.offset = off) {n0 : Nat} (hc0 : P.cellsOf f.type = n0) (hs0 : d.sz = n0) (h : Opn P d f.type g) (hs : OpnF P ds (off + d.sz) fs gs) :
    OpnF P (Kd.pair d ds) off (f :: fs) (andG g gs) := by
  have hc : P.cellsOf f.type = d.sz := hc0.trans hs0.symm
  constructor; intro H enc w base spare held fuel cs hl hf
  obtain ⟨y, hy⟩ := hf f (by simp)
  rw [ho, hc] at hy
  obtain ⟨a, ha, hga⟩ := h.out hy
  obtain ⟨b, hb, hgb⟩ := hs.out (cs := cs) (by rw [hl]; show off + (d.sz + ds.sz) = _; omega) (fun f' hf' => hf f' (List.mem_cons_of_mem _ hf'))
  refine ⟨(a, b), ⟨_, _, ?_, ha, hb⟩, hga, hgb⟩
  rw [← List.drop_drop, List.take_append_drop]
theorem Opn.struct {α : Type} {d : Kd α} {t : TypeId} {L : List Field} {g : α → Prop} (ht : P.underlying t = some (.struct L.toArray)) {n0 : Nat} (hc0 : P.cellsOf t = n0) (hs0 : d.sz = n0) (h : OpnF P d 0 L g) : Opn P d t g := by
  have hc : P.cellsOf t = d.sz := hc0.trans hs0.symm
  constructor; intro H enc w base spare held fuel cs x hx
  obtain ⟨xs, n, _, _, hlen, hxs, hf⟩ := DataW.trod_struct ht hx
  obtain ⟨a, ha, hg⟩ := h.out (enc := enc) (w := w) (base := base) (spare := spare) (held := held) (fuel := n) (cs := cs) (by rw [hlen, hc]; omega) (fun f hm => by
    obtain ⟨i, hi, rfl⟩ := List.getElem_of_mem hm
    have h1 := hf i L[i] (by simp [hi])
    have hi2 : i < xs.length := by simp at hxs; omega
    exact ⟨xs[i], h1.trans (List.getElem?_eq_getElem hi2)⟩)
  exact ⟨a, by simpa using ha, hg⟩
end
end Go.Proofs.YtcgpibbbkdhpeaaW.Open

namespace Go.Proofs.YtcgpibbbkdhpeaaW.SL
open Go Go.RowKit Go.Proofs.YtcgpibbbkdhpeaaW.PrintWords
set_option linter.unusedSimpArgs false
set_option linter.unusedVariables false

/-! ### slots -/
abbrev Sl := List (Nat × Value)
def lk : Sl → Nat → Option Value
  | [], _ => none
  | (k, v) :: r, t => bif Nat.beq k t then some v else lk r t
def ev (L : Sl) : Operand → Option Value
  | .tmp t => lk L t
  | .const v => some v
  | .global g => some (.pointer (some ⟨g, 0, none⟩))
  | .func f => some (.func (.func f) #[] #[])
def evs (L : Sl) : List Operand → Option (List Value)
  | [] => some []
  | x :: r => match ev L x, evs L r with
    | some v, some vs => some (v :: vs)
    | _, _ => none
structure Fr (N : Nat) (a : Act) (L : Sl) : Prop where
  size : N ≤ a.tmps.size
  defers : a.defers = []
  at_ : ∀ t v, lk L t = some v → a.tmps[t]? = some v
section
variable {N : Nat} {a : Act} {L L' : Sl} {x : Operand} {v : Value}
theorem beq_no {k t : Nat} (e : ¬ k = t) : Nat.beq k t = false := by
  cases h : Nat.beq k t with
  | false => rfl
  | true => exact absurd (Nat.eq_of_beq_eq_true h) e
theorem Fr.ev (h : Fr N a L) (hx : ev L x = some v) : a.eval x = v := by
  cases x with
  | tmp t =>
    have := h.at_ t v hx
    simp only [Act.eval, Array.getD_eq_getD_getElem?, this, Option.getD_some]
  | const w => simpa [SL.ev, Act.eval] using hx
  | global g => simpa [SL.ev, Act.eval] using hx
  | func f => simpa [SL.ev, Act.eval] using hx
theorem Fr.evs (h : Fr N a L) : ∀ {xs : List Operand} {vs : List Value}, evs L xs = some vs → xs.map a.eval = vs
  | [], vs, hx => by simpa [SL.evs] using hx
  | x :: r, vs, hx => by
    unfold SL.evs at hx
    cases h1 : SL.ev L x with
    | none => simp [h1] at hx
    | some v =>
      cases h2 : SL.evs L r with
      | none => simp [h1, h2] at hx
      | some vs' =>
        simp only [h1, h2, Option.some.injEq] at hx
        subst hx
        simp [h.ev h1, h.evs h2]
theorem Fr.put (h : Fr N a L) {d : Nat} (hd : Nat.blt d N = true) (v : Value) : Fr N (a.put (some d) v) ((d, v) :: L) := by
  have hd' : d < N := by simpa [Nat.blt_eq] using hd
  refine ⟨by simpa [Act.put] using h.size, h.defers, fun t u hu => ?_⟩
  unfold lk at hu
  simp only [Act.put]
  by_cases e : d = t
  · subst e
    rw [show Nat.beq d d = true by simp] at hu
    simp only [cond_true, Option.some.injEq] at hu
    subst hu
    have := h.size
    rw [Array.getElem?_setIfInBounds_self_of_lt (by omega)]
  · rw [beq_no e] at hu
    simp only [cond_false] at hu
    rw [Array.getElem?_setIfInBounds_ne (by omega)]
    exact h.at_ t u hu
theorem Fr.put_none (h : Fr N a L) (v : Value) : Fr N (a.put none v) L := h
/-- What is told of the slots in L' is told in L. -/
def Sub : Sl → Sl → Prop
  | [], _ => True
  | p :: r, L => lk L p.1 = some p.2 ∧ Sub r L
theorem Sub.lk : ∀ {L' L : Sl}, Sub L' L → ∀ t v, lk L' t = some v → lk L t = some v
  | [], _, _, t, v, h => by simp [SL.lk] at h
  | p :: r, L, ⟨h1, h2⟩, t, v, h => by
    obtain ⟨k, u⟩ := p
    unfold SL.lk at h
    by_cases e : k = t
    · subst e
      rw [show Nat.beq k k = true by simp] at h
      simp only [cond_true, Option.some.injEq] at h
      subst h
      exact h1
    · rw [beq_no e] at h
      exact Sub.lk h2 t v h
theorem Fr.sub (h : Fr N a L) (hs : Sub L' L) : Fr N a L' := ⟨h.size, h.defers, fun t v hv => h.at_ t v (hs.lk t v hv)⟩
end
/-- Is the operation carried out (its guard)? -/
def wants (ops : Array Oper) (L : Sl) (o : Oper) : Option Bool :=
  match o.guard with
  | none => some true
  | some (j, want) => match (ops[j]?).bind (·.dst) with
    | none => none
    | some t => match lk L t with
      | some (.bool b) => some (b == want)
      | some (.tuple _) => some false
      | _ => none
theorem Fr.wants {N : Nat} {a : Act} {L : Sl} {ops : Array Oper} {o : Oper} {b : Bool} (h : Fr N a L) (hw : wants ops L o = some b) : Region.wanted o (yielded ops a.tmps) = b := by
  unfold SL.wants at hw
  unfold Region.wanted
  cases hg : o.guard with
  | none => simp only [hg, Option.some.injEq] at hw ⊢; exact hw
  | some p =>
    obtain ⟨j, want⟩ := p
    simp only [hg] at hw ⊢
    cases hj : (ops[j]?).bind (·.dst) with
    | none => simp [hj] at hw
    | some t =>
      simp only [hj] at hw
      cases hl : lk L t with
      | none => simp [hl] at hw
      | some u =>
        have := h.at_ t _ hl
        unfold yielded
        rw [hj, Option.bind_some, this]
        cases u <;> simp only [hl, Option.some.injEq, reduceCtorEq] at hw
        · rename_i c
          rw [← hw]
          cases c <;> cases want <;> rfl
        · rw [← hw]
          rfl

/-! ### memory -/
/-- A thing in memory that may be written: p w S: it is there, in the blocks S. -/
structure ItemS where
  p : World → (Nat → Prop) → Prop
  lt : ∀ {w S k}, p w S → S k → k < w.heap.size
  loc : ∀ {w w' : World} {S}, p w S → (∀ k, S k → w'.heap[k]? = w.heap[k]?) → p w' S
/-- A block of the call's own; a row of its own (elements of kind d and type e, made from block b on); anything else. -/
inductive Item : Type 1
  | box (g T : Nat) (cs : List Value)
  | row {α : Type} (d : Kd α) (e b : Nat) (v : Value) (xs : List α)
  /-- As row; no two elements lead to one block. -/
  | rowS {α : Type} (d : Kd α) (e b : Nat) (v : Value) (xs : List α)
  /-- As rowS, without element i: its cells are c, what it leads to (u) is told apart. -/
  | lent {α : Type} (d : Kd α) (e b : Nat) (v : Value) (xs : List α) (i : Int) (c : List Value) (u : Value)
  | any (i : ItemS)
def Item.p : Item → World → (Nat → Prop) → Prop
  | .box g T cs, w, S => w.heap[g]? = some (.cells cs.toArray T (0, 0)) ∧ ∀ k, S k ↔ k = g
  | .row d e b v xs, w, S => d.R e w b S v xs ∧ ∀ k, S k → k < w.heap.size
  | .rowS d e b v xs, w, S => Kd.S d e w b S v xs ∧ ∀ k, S k → k < w.heap.size
  | .lent d e b v xs i c u, w, S => ∃ ok oki : Nat → Prop, Kd.H d e w b ok v xs i oki c ∧ (∀ k, u.ownBlock = some k → oki k) ∧ (∀ k, S k ↔ (ok k ∧ ¬ oki k) ∧ k < w.heap.size) ∧ ∀ k, oki k → k < w.heap.size
  | .any i, w, S => i.p w S
theorem Item.lt : ∀ (i : Item) {w : World} {S : Nat → Prop} {k : Nat}, i.p w S → S k → k < w.heap.size
  | .box g T cs, w, S, k, h, hk => by rw [(h.2 k).1 hk]; exact blk_lt h.1
  | .row d e b v xs, w, S, k, h, hk => h.2 k hk
  | .rowS d e b v xs, w, S, k, h, hk => h.2 k hk
  | .lent d e b v xs i c u, w, S, k, ⟨_, _, _, _, h, _⟩, hk => ((h k).1 hk).2
  | .any i, w, S, k, h, hk => i.lt h hk
theorem Item.loc : ∀ (i : Item) {w w' : World} {S : Nat → Prop}, i.p w S → w.heap.size ≤ w'.heap.size → (∀ k, S k → w'.heap[k]? = w.heap[k]?) → i.p w' S
  | .box g T cs, w, w', S, h, _, hm => ⟨(hm g ((h.2 g).2 rfl)).trans h.1, h.2⟩
  | .row d e b v xs, w, w', S, h, hs, hm => ⟨Kd.R_move h.1 hm, fun k hk => Nat.lt_of_lt_of_le (h.2 k hk) hs⟩
  | .rowS d e b v xs, w, w', S, h, hs, hm => ⟨Kd.S_move h.1 hm, fun k hk => Nat.lt_of_lt_of_le (h.2 k hk) hs⟩
  | .lent d e b v xs i c u, w, w', S, ⟨ok, oki, h1, h2, h3, h4⟩, hs, hm => by
    have hb : Kd.H d e w b (fun k => ok k ∧ k < w.heap.size) v xs i oki c := by
      obtain ⟨g0, f, g1⟩ := h1
      exact ⟨fun k hk => ⟨g0 k hk, h4 k hk⟩, f, Kd.R_mono (Kd.R_bound g1) (fun k hk => ⟨⟨hk.1.1, hk.2.2.1⟩, hk.1.2⟩)⟩
    refine ⟨fun k => ok k ∧ k < w.heap.size, oki, Kd.H_step hb (fun k hk hn hlt => hm k ((h3 k).2 ⟨⟨hk.1, hn⟩, hlt⟩)), h2, fun k => ?_, fun k hk => Nat.lt_of_lt_of_le (h4 k hk) hs⟩
    rw [h3 k]
    constructor
    · rintro ⟨⟨g1, g2⟩, g3⟩
      exact ⟨⟨⟨g1, g3⟩, g2⟩, by omega⟩
    · rintro ⟨⟨⟨g1, g3⟩, g2⟩, _⟩
      exact ⟨⟨g1, g2⟩, g3⟩
  | .any i, w, w', S, h, _, hm => i.loc h hm
/-- All items, apart from one another, in the blocks S. -/
def Own : List Item → World → (Nat → Prop) → Prop
  | [], _, S => ∀ k, ¬ S k
  | i :: r, w, S => ∃ A B, i.p w A ∧ Own r w B ∧ (∀ k, S k ↔ A k ∨ B k) ∧ ∀ k, A k → ¬ B k
theorem Own.lt : ∀ {its : List Item} {w : World} {S : Nat → Prop}, Own its w S → ∀ k, S k → k < w.heap.size
  | [], _, _, h, k, hk => absurd hk (h k)
  | i :: r, w, S, ⟨A, B, h1, h2, h3, _⟩, k, hk => ((h3 k).1 hk).elim (fun ha => i.lt h1 ha) (fun hb => h2.lt k hb)
theorem Own.loc : ∀ {its : List Item} {w w' : World} {S : Nat → Prop}, Own its w S → w.heap.size ≤ w'.heap.size → (∀ k, S k → w'.heap[k]? = w.heap[k]?) → Own its w' S
  | [], _, _, _, h, _, _ => h
  | i :: r, w, w', S, ⟨A, B, h1, h2, h3, h4⟩, hs, hm => ⟨A, B, i.loc h1 hs (fun k hk => hm k ((h3 k).2 (.inl hk))), h2.loc hs (fun k hk => hm k ((h3 k).2 (.inr hk))), h3, h4⟩
/-- Item n by itself; and what stands there behind it. -/
theorem Own.focus : ∀ {its : List Item} {n : Nat} {i : Item} {w : World} {S : Nat → Prop}, its[n]? = some i → Own its w S → ∃ A, i.p w A ∧ (∀ k, A k → S k) ∧
    ∀ (w' : World) (i' : Item) (A' : Nat → Prop), i'.p w' A' → w.heap.size ≤ w'.heap.size → (∀ k, A' k → ¬ S k ∨ A k) → (∀ k, S k → ¬ A k → w'.heap[k]? = w.heap[k]?) → Own (its.set n i') w' (fun k => A' k ∨ (S k ∧ ¬ A k))
  | [], _, _, _, _, hn, _ => by simp at hn
  | j :: r, 0, i, w, S, hn, ⟨A, B, h1, h2, h3, h4⟩ => by
    obtain rfl : j = i := by simpa using hn
    refine ⟨A, h1, fun k hk => (h3 k).2 (.inl hk), fun w' i' A' hi' hs hA' hm => ?_⟩
    refine ⟨A', B, hi', h2.loc hs (fun k hk => hm k ((h3 k).2 (.inr hk)) (fun ha => h4 k ha hk)), fun k => ?_, fun k hk hb => ?_⟩
    · constructor
      · rintro (h | ⟨h5, h6⟩)
        · exact .inl h
        · exact .inr (((h3 k).1 h5).resolve_left h6)
      · rintro (h | h)
        · exact .inl h
        · exact .inr ⟨(h3 k).2 (.inr h), fun ha => h4 k ha h⟩
    · rcases hA' k hk with h | h
      · exact h ((h3 k).2 (.inr hb))
      · exact h4 k h hb
  | j :: r, n + 1, i, w, S, hn, ⟨A, B, h1, h2, h3, h4⟩ => by
    obtain ⟨C, g1, g2, g3⟩ := Own.focus (its := r) (n := n) (by simpa using hn) h2
    refine ⟨C, g1, fun k hk => (h3 k).2 (.inr (g2 k hk)), fun w' i' A' hi' hs hA' hm => ?_⟩
    refine ⟨A, fun k => A' k ∨ (B k ∧ ¬ C k), j.loc h1 hs (fun k hk => hm k ((h3 k).2 (.inl hk)) (fun hc => h4 k hk (g2 k hc))), g3 w' i' A' hi' hs (fun k hk => ?_) (fun k hb hc => hm k ((h3 k).2 (.inr hb)) hc), fun k => ?_, fun k hk hb => ?_⟩
    · rcases hA' k hk with h | h
      · exact .inl (fun hb => h ((h3 k).2 (.inr hb)))
      · exact .inr h
    · constructor
      · rintro (h | ⟨h5, h6⟩)
        · exact .inr (.inl h)
        · rcases (h3 k).1 h5 with h | h
          · exact .inl h
          · exact .inr (.inr ⟨h, h6⟩)
      · rintro (h | h | ⟨h5, h6⟩)
        · exact .inr ⟨(h3 k).2 (.inl h), fun hc => h4 k h (g2 k hc)⟩
        · exact .inl h
        · exact .inr ⟨(h3 k).2 (.inr h5), h6⟩
    · rcases hb with h | ⟨h5, h6⟩
      · rcases hA' k h with h' | h'
        · exact h' ((h3 k).2 (.inl hk))
        · exact h4 k hk (g2 k h')
      · exact h4 k hk h5
/-- Two as one. -/
theorem Own.one : ∀ {its : List Item} {n : Nat} {j1 j2 i : Item} {w : World} {S : Nat → Prop}, its[n]? = some j1 → Own (j2 :: its) w S → (∀ A1 A2 : Nat → Prop, j1.p w A1 → j2.p w A2 → (∀ k, A1 k → ¬ A2 k) → i.p w (fun k => A1 k ∨ A2 k)) → Own (its.set n i) w S := by
  intro its n j1 j2 i w S hn ⟨A2, C, h1, h2, h3, h4⟩ hi
  obtain ⟨A1, g1, g2, g3⟩ := h2.focus hn
  have hi' := hi A1 A2 g1 h1 (fun k hk h' => h4 k h' (g2 k hk))
  have hO := g3 w i _ hi' (Nat.le_refl _) (fun k hk => hk.elim .inr (fun h => .inl (fun hc => h4 k h hc))) (fun _ _ _ => rfl)
  refine (show (fun k => (A1 k ∨ A2 k) ∨ (C k ∧ ¬ A1 k)) = S from funext fun k => propext ?_) ▸ hO
  rw [h3 k]
  constructor
  · rintro ((h | h) | h)
    · exact .inr (g2 k h)
    · exact .inl h
    · exact .inr h.1
  · rintro (h | h)
    · exact .inl (.inr h)
    · by_cases ha : A1 k
      · exact .inl (.inl ha)
      · exact .inr ⟨h, ha⟩
/-- Item n taken out. -/
theorem Own.out : ∀ {its : List Item} {n : Nat} {i : Item} {w : World} {S : Nat → Prop}, its[n]? = some i → Own its w S → ∃ A B, i.p w A ∧ Own (its.eraseIdx n) w B ∧ (∀ k, S k ↔ A k ∨ B k) ∧ ∀ k, A k → ¬ B k
  | [], _, _, _, _, hn, _ => by simp at hn
  | j :: r, 0, i, w, S, hn, ⟨A, B, h1, h2, h3, h4⟩ => by
    obtain rfl : j = i := by simpa using hn
    exact ⟨A, B, h1, h2, h3, h4⟩
  | j :: r, n + 1, i, w, S, hn, ⟨A, B, h1, h2, h3, h4⟩ => by
    obtain ⟨C, D, g1, g2, g3, g4⟩ := Own.out (its := r) (n := n) (by simpa using hn) h2
    refine ⟨C, fun k => A k ∨ D k, g1, ⟨A, D, h1, g2, fun k => Iff.rfl, fun k ha hd => h4 k ha ((g3 k).2 (.inr hd))⟩, fun k => ?_, fun k hc hd => ?_⟩
    · rw [h3 k, g3 k]
      constructor
      · rintro (h | h | h)
        · exact .inr (.inl h)
        · exact .inl h
        · exact .inr (.inr h)
      · rintro (h | h | h)
        · exact .inr (.inl h)
        · exact .inl h
        · exact .inr (.inr h)
    · rcases hd with h | h
      · exact h4 k h ((g3 k).2 (.inl hc))
      · exact g4 k hc h
/-- W is w but for the blocks S and new ones. -/
structure Aft (S : Nat → Prop) (w W : World) : Prop where
  os : W.os = w.os
  tape : W.tape = w.tape
  output : W.output = w.output
  size : w.heap.size ≤ W.heap.size
  block : ∀ k, k < w.heap.size → ¬ S k → W.heap[k]? = w.heap[k]?
theorem Aft.refl (S : Nat → Prop) (w : World) : Aft S w w := ⟨rfl, rfl, rfl, Nat.le_refl _, fun _ _ _ => rfl⟩
theorem Aft.trans {S S' : Nat → Prop} {w w' W : World} (h : Aft S w w') (h' : Aft S' w' W) (hS : ∀ k, S' k → k < w.heap.size → S k) : Aft S w W :=
  ⟨h'.os.trans h.os, h'.tape.trans h.tape, h'.output.trans h.output, Nat.le_trans h.size h'.size, fun k hlt hn => (h'.block k (Nat.lt_of_lt_of_le hlt h.size) (fun hs => hn (hS k hs hlt))).trans (h.block k hlt hn)⟩
theorem Aft.of_below {w w' : World} (S : Nat → Prop) (h : Below w.heap.size w w') : Aft S w w' := ⟨h.os, h.tape, h.output, h.size, fun k hk _ => h.block k hk⟩
theorem Aft.below {S : Nat → Prop} {w w' : World} {B : Nat} (h : Aft S w w') (hB : B ≤ w.heap.size) (hS : ∀ k, S k → B ≤ k) : Below B w w' := ⟨h.os, h.tape, h.output, h.size, fun k hk => h.block k (by omega) (fun hs => by have := hS k hs; omega)⟩
theorem Aft.all {w w' : World} {S : Nat → Prop} (h : Aft S w w') (hS : ∀ k, k < w.heap.size → ¬ S k) : Below w.heap.size w w' := ⟨h.os, h.tape, h.output, h.size, fun k hk => h.block k hk (hS k hk)⟩
/-- A fact that lasts: whatever happens to the blocks S and to new ones. -/
def Sta (S : Nat → Prop) (w : World) (p : World → Prop) : Prop := ∀ W : World, Aft S w W → p W
theorem Sta.now {S : Nat → Prop} {w : World} {p : World → Prop} (h : Sta S w p) : p w := h w (Aft.refl S w)
theorem Sta.step {S S' : Nat → Prop} {w w' : World} {p : World → Prop} (h : Sta S w p) (ha : Aft S w w') (hS : ∀ k, S' k → k < w.heap.size → S k) : Sta S' w' p :=
  fun W hW => h W (ha.trans hW hS)
theorem Sta.imp {S : Nat → Prop} {w : World} {p q : World → Prop} (h : Sta S w p) (hq : ∀ W, p W → q W) : Sta S w q := fun W h1 => hq W (h W h1)
/-- Where a call began: its world, and what of it the call may write. -/
structure Base where
  w : World
  S : Nat → Prop
abbrev base (w : World) : Base := ⟨w, fun _ => False⟩
/-- The world at some point of a call that began at B. -/
structure WS (B : Base) (w : World) (its : List Item) (ps : List (World → Prop)) : Prop where
  aft : Aft B.S B.w w
  own : ∃ S, Own its w S ∧ (∀ k, S k → B.S k ∨ B.w.heap.size ≤ k) ∧ ∀ p ∈ ps, Sta S w p
section
variable {B : Base} {w w' : World} {its its' : List Item} {ps ps' : List (World → Prop)}
theorem WS.start (w : World) : WS (base w) w [] [] := ⟨Aft.refl _ _, fun _ => False, fun k h => h, fun k h => h.elim, fun p hp => by cases hp⟩
theorem WS.startW {w : World} {S : Nat → Prop} (h : Own its w S) (hp : ∀ p ∈ ps, Sta S w p) : WS ⟨w, S⟩ w its ps := ⟨Aft.refl _ _, S, h, fun k h => .inl h, hp⟩
theorem WS.below {w0 : World} (h : WS (base w0) w its ps) : Below w0.heap.size w0 w := h.aft.all (fun _ _ hk => hk)
theorem WS.size (h : WS B w its ps) : B.w.heap.size ≤ w.heap.size := h.aft.size
/-- Nothing of what was there has been touched. -/
theorem WS.call (h : WS B w its ps) (hb : Below w.heap.size w w') : WS B w' its ps := by
  obtain ⟨h1, S, h2, h3, h4⟩ := h
  exact ⟨h1.trans (Aft.of_below (fun _ => False) hb) (fun k hk _ => hk.elim), S, h2.loc hb.size (fun k hk => hb.block k (h2.lt k hk)), h3, fun p hp => (h4 p hp).step (Aft.of_below S hb) (fun k hk _ => hk)⟩
theorem WS.fact (h : WS B w its ps) {p : World → Prop} (hp : p ∈ ps) : p w := by
  obtain ⟨_, S, _, _, h4⟩ := h
  exact (h4 p hp).now
theorem WS.at (h : WS B w its ps) (n : Nat) {p : World → Prop} (hn : ps[n]? = some p) : p w := h.fact (List.mem_of_getElem? hn)
theorem WS.sub (h : WS B w its ps) (hs : ∀ p ∈ ps', p ∈ ps) : WS B w its ps' := by
  obtain ⟨h1, S, h2, h3, h4⟩ := h
  exact ⟨h1, S, h2, h3, fun p hp => h4 p (hs p hp)⟩
theorem WS.imp (h : WS B w its ps) {p q : World → Prop} (hp : p ∈ ps) (hq : ∀ W, p W → q W) : WS B w its (q :: ps) := by
  obtain ⟨h1, S, h2, h3, h4⟩ := h
  refine ⟨h1, S, h2, h3, fun r hr => ?_⟩
  rcases List.mem_cons.1 hr with rfl | hr
  · exact (h4 p hp).imp hq
  · exact h4 r hr
/-- A fact that lasts, out of the others. -/
theorem WS.lay (h : WS B w its ps) {q : World → Prop} (hq : ∀ S, Own its w S → (∀ p ∈ ps, Sta S w p) → Sta S w q) : WS B w its (q :: ps) := by
  obtain ⟨h1, S, h2, h3, h4⟩ := h
  refine ⟨h1, S, h2, h3, fun r hr => ?_⟩
  rcases List.mem_cons.1 hr with rfl | hr
  · exact hq S h2 h4
  · exact h4 r hr
/-- One more item, in new blocks. -/
theorem WS.new (h : WS B w its ps) (hb : Below w.heap.size w w') {i : Item} {A : Nat → Prop} (hi : i.p w' A) (hA : ∀ k, A k → w.heap.size ≤ k) : WS B w' (i :: its) ps := by
  have hc := h.call hb
  obtain ⟨h1, S, h2, h3, h4⟩ := h
  refine ⟨hc.aft, fun k => A k ∨ S k, ⟨A, S, hi, h2.loc hb.size (fun k hk => hb.block k (h2.lt k hk)), fun k => Iff.rfl, fun k ha hs => by have := hA k ha; have := h2.lt k hs; omega⟩, ?_, fun p hp => (h4 p hp).step (Aft.of_below S hb) (fun k hk hlt => ?_)⟩
  · rintro k (hk | hk)
    · exact .inr (Nat.le_trans h1.size (hA k hk))
    · exact h3 k hk
  · rcases hk with hk | hk
    · have := hA k hk; omega
    · exact hk
/-- Item n is another one now; nothing else was touched. -/
theorem WS.upd (h : WS B w its ps) {n : Nat} {i i' : Item} (hn : its[n]? = some i)
    (hw : ∀ A, i.p w A → (∀ k, A k → B.S k ∨ B.w.heap.size ≤ k) → ∃ A', i'.p w' A' ∧ (∀ k, A' k → k < w.heap.size → A k) ∧ Aft A w w') : WS B w' (its.set n i') ps := by
  obtain ⟨h1, S, h2, h3, h4⟩ := h
  obtain ⟨A, g1, g2, g3⟩ := h2.focus hn
  obtain ⟨A', e1, e2, e3⟩ := hw A g1 (fun k hk => h3 k (g2 k hk))
  have hS := h2.lt
  have e3' : Aft S w w' := ⟨e3.os, e3.tape, e3.output, e3.size, fun k hk hn => e3.block k hk (fun ha => hn (g2 k ha))⟩
  refine ⟨h1.trans e3 (fun k hk hlt => (h3 k (g2 k hk)).resolve_right (by omega)), _, g3 w' i' A' e1 e3.size (fun k hk => ?_) (fun k hs ha => e3.block k (hS k hs) ha), ?_, fun p hp => (h4 p hp).step e3' ?_⟩
  · by_cases hlt : k < w.heap.size
    · exact .inr (e2 k hk hlt)
    · exact .inl (fun hs => hlt (hS k hs))
  · rintro k (hk | hk)
    · by_cases hlt : k < w.heap.size
      · exact h3 k (g2 k (e2 k hk hlt))
      · exact .inr (Nat.le_trans h1.size (by omega))
    · exact h3 k hk.1
  · rintro k (hk | hk) hlt
    · exact g2 k (e2 k hk hlt)
    · exact hk.1
/-- Item n is written no more: a fact on it that lasts. -/
theorem WS.freeze (h : WS B w its ps) {n : Nat} {i : Item} (hn : its[n]? = some i) {p : World → Prop} (hp : ∀ W A, i.p W A → p W) : WS B w (its.eraseIdx n) (p :: ps) := by
  obtain ⟨h1, S, h2, h3, h4⟩ := h
  obtain ⟨A, B', g1, g2, g3, g4⟩ := h2.out hn
  refine ⟨h1, B', g2, fun k hk => h3 k ((g3 k).2 (.inr hk)), fun q hq => ?_⟩
  rcases List.mem_cons.1 hq with rfl | hq
  · exact fun W hm => hp W A (i.loc g1 hm.size (fun k hk => hm.block k (i.lt g1 hk) (g4 k hk)))
  · exact (h4 q hq).step (Aft.refl S w) (fun k hk _ => (g3 k).2 (.inr hk))
theorem WS.drop (h : WS B w its ps) {n : Nat} {i : Item} (hn : its[n]? = some i) : WS B w (its.eraseIdx n) ps := by
  have := h.freeze hn (p := fun _ => True) (fun _ _ _ => trivial)
  exact this.sub (fun p hp => List.mem_cons_of_mem _ hp)
/-- A fact on new blocks alone lasts. -/
theorem WS.fresh (h : WS B w its ps) (hb : Below w.heap.size w w') {p : World → Prop} (hp : ∀ W : World, W.os = w'.os → W.tape = w'.tape → W.output = w'.output → w'.heap.size ≤ W.heap.size → (∀ k, w.heap.size ≤ k → k < w'.heap.size → W.heap[k]? = w'.heap[k]?) → p W) : WS B w' its (p :: ps) := by
  have hc := h.call hb
  obtain ⟨h1, S, h2, h3, h4⟩ := h
  refine ⟨hc.aft, S, h2.loc hb.size (fun k hk => hb.block k (h2.lt k hk)), h3, fun q hq => ?_⟩
  rcases List.mem_cons.1 hq with rfl | hq
  · exact fun W hm => hp W hm.os hm.tape hm.output hm.size (fun k g1 g2 => hm.block k g2 (fun hs => by have := h2.lt k hs; omega))
  · exact (h4 q hq).step (Aft.of_below S hb) (fun k hk _ => hk)
end
end Go.Proofs.YtcgpibbbkdhpeaaW.SL

namespace Go.Proofs.YtcgpibbbkdhpeaaW.SL
open Go Go.RowKit Go.Proofs.YtcgpibbbkdhpeaaW.PrintWords
set_option linter.unusedSimpArgs false
set_option linter.unusedVariables false

/-- The cells from an address on. -/
def Cells (w : World) (ad : Addr) (cs : List Value) : Prop := ∀ j u, cs[j]? = some u → w.cell? (ad.add j) = some u

/-! #### the operations of a region, in the text's order -/
/-- Which operations of a region that draws its order are taken first; which come last of all. -/
structure Dm where
  takes : Nat → Bool
  needs : Nat → Bool
abbrev plain : Dm := ⟨fun _ => false, fun _ => false⟩
def runG (P : Program) (ops : Array Oper) (Q : Exit → Act → World → Prop) (D : Dm) : Nat → List Oper → Act → World → Prop
  | _, [], a, w => Q .normal a w
  | k, o :: r, a, w =>
    if D.takes k = true then ∃ v, YieldsIf P ops (fun W => Below w.heap.size w W) o v a ∧ runG P ops Q D (k + 1) r (a.put o.dst v) w
    else if Region.wanted o (yielded ops a.tmps) = true then o.wp P a w (fun a' w' => (D.needs k = true → Below w.heap.size w w') ∧ runG P ops Q D (k + 1) r a' w') Q
    else runG P ops Q D (k + 1) r (a.put o.dst undef) w
theorem wpList_of_run {P : Program} {ops : Array Oper} {Q : Exit → Act → World → Prop} : ∀ (l : List Oper) (k : Nat) (a : Act) (w : World), runG P ops Q plain k l a w → wpList P ops Q l a w
  | [], _, _, _, h => h
  | o :: r, k, a, w, h => by
    unfold runG at h
    rw [if_neg (by simp)] at h
    unfold wpList
    split
    · rename_i hw
      rw [if_pos hw] at h
      exact .inl (Oper.wp_mono (fun a' w' h' => wpList_of_run r (k + 1) a' w' h'.2) h)
    · rename_i hw
      rw [if_neg hw] at h
      exact wpList_of_run r (k + 1) _ _ h

section
variable (P : Program) (N : Nat) (B : Base)
/-- From the slots L, the items its, the facts ps on: K. -/
structure Ej (K : Act → World → Prop) (L : Sl) (its : List Item) (ps : List (World → Prop)) : Prop where
  mk :: (out : ∀ a w, Fr N a L → WS B w its ps → K a w)
structure Jl (D : Dm) (k : Nat) (ops : Array Oper) (Q : Exit → Act → World → Prop) (rest : List Oper) (L : Sl) (its : List Item) (ps : List (World → Prop)) : Prop where
  mk :: (out : ∀ a w, Fr N a L → WS B w its ps → runG P ops Q D k rest a w)
structure Cj (c : Code) (Q : Exit → Act → World → Prop) (L : Sl) (its : List Item) (ps : List (World → Prop)) : Prop where
  mk :: (out : ∀ a w, Fr N a L → WS B w its ps → c.wp P Q a w)
/-- The operation yields v and touches nothing. -/
structure Yd (o : Oper) (v : Value) (L : Sl) (its : List Item) (ps : List (World → Prop)) : Prop where
  mk :: (out : ∀ a w, Fr N a L → WS B w its ps → (execOp a.eval o).run P w = .ok (.value v) w)
end

section
variable {P : Program} {N : Nat} {B : Base} {L L' : Sl} {its its' : List Item} {ps ps' : List (World → Prop)} {Q : Exit → Act → World → Prop} {D : Dm} {k : Nat} {ops : Array Oper} {rest : List Oper} {o : Oper} {c c1 c2 : Code} {d t T n : Nat} {v v2 : Value} {b : Bool}

instance {K : Act → World → Prop} : CoeFun (Ej N B K L its ps) (fun _ => ∀ a w, Fr N a L → WS B w its ps → K a w) := ⟨Ej.out⟩
instance : CoeFun (Jl P N B D k ops Q rest L its ps) (fun _ => ∀ a w, Fr N a L → WS B w its ps → runG P ops Q D k rest a w) := ⟨Jl.out⟩
instance : CoeFun (Cj P N B c Q L its ps) (fun _ => ∀ a w, Fr N a L → WS B w its ps → c.wp P Q a w) := ⟨Cj.out⟩
instance : CoeFun (Yd P N B o v L its ps) (fun _ => ∀ a w, Fr N a L → WS B w its ps → (execOp a.eval o).run P w = .ok (.value v) w) := ⟨Yd.out⟩
/-! #### code -/
theorem Cj.seq (hc : c = .seq c1 c2) (h : Cj P N B c1 (Exit.then (c2.wp P Q) Q) L its ps) : Cj P N B c Q L its ps := by
  subst hc
  refine ⟨?_⟩
  exact fun a w hf hw => wp_seq (h a w hf hw)
theorem Cj.region {id : Nat} (hc : c = .region id ops false) (h : Jl P N B plain 0 ops Q ops.toList L its ps) : Cj P N B c Q L its ps := by
  subst hc
  refine ⟨?_⟩
  exact fun a w hf hw => wp_region_list (wpList_of_run _ _ _ _ (h a w hf hw))
theorem Cj.cond {z : Operand} (hc : c = .cond z c1 c2) (hz : ev L z = some (.bool b)) (ht : b = true → Cj P N B c1 Q L its ps) (hf : b = false → Cj P N B c2 Q L its ps) : Cj P N B c Q L its ps := by
  subst hc
  refine ⟨?_⟩
  exact fun a w hF hw => wp_cond_split (hF.ev hz) (fun e => ht e a w hF hw) (fun e => hf e a w hF hw)
theorem Cj.condT {z : Operand} (hc : c = .cond z c1 c2) (hz : ev L z = some (.bool true)) (h : Cj P N B c1 Q L its ps) : Cj P N B c Q L its ps :=
  Cj.cond hc hz (fun _ => h) (fun e => by cases e)
theorem Cj.condF {z : Operand} (hc : c = .cond z c1 c2) (hz : ev L z = some (.bool false)) (h : Cj P N B c2 Q L its ps) : Cj P N B c Q L its ps :=
  Cj.cond hc hz (fun e => by cases e) (fun _ => h)
theorem Cj.block {id : Nat} (hc : c = .block id c1) (h : Cj P N B c1 (Exit.inBlock id Q) L its ps) : Cj P N B c Q L its ps := by
  subst hc
  refine ⟨?_⟩
  exact fun a w hf hw => wp_block (h a w hf hw)
theorem Cj.skip (hc : c = .skip) (h : Ej N B (Q .normal) L its ps) : Cj P N B c Q L its ps := by
  subst hc
  refine ⟨?_⟩
  exact fun a w hf hw => wp_skip (h a w hf hw)
theorem Cj.exit {id : Nat} (hc : c = .exit id) (h : Ej N B (Q (.exit id)) L its ps) : Cj P N B c Q L its ps := by
  subst hc
  refine ⟨?_⟩
  exact fun a w hf hw => wp_exit (h a w hf hw)
theorem Cj.ret (hc : c = .ret) (h : Ej N B (Q .ret) L its ps) : Cj P N B c Q L its ps := by
  subst hc
  refine ⟨?_⟩
  exact fun a w hf hw => wp_ret (h a w hf hw)
theorem Jl.nil (h : Ej N B (Q .normal) L its ps) : Jl P N B D k ops Q [] L its ps := .mk <| fun a w hf hw => h a w hf hw
/-- What follows is known to be this code. -/
theorem Ej.go {K : Act → World → Prop} (h : Cj P N B c2 Q L its ps) (hK : ∀ a w, c2.wp P Q a w → K a w) : Ej N B K L its ps := .mk <| fun a w hf hw => hK a w (h a w hf hw)
theorem Ej.sub {K : Act → World → Prop} (L' : Sl) (ps' : List (World → Prop)) (hL : Sub L' L) (hp : ∀ p ∈ ps', p ∈ ps) (h : Ej N B K L' its ps') : Ej N B K L its ps := .mk <| fun a w hf hw => h a w (hf.sub hL) (hw.sub hp)
/-- What lies in memory, told otherwise. -/
theorem Cj.ws {ι : Type} (I : ι → Prop) (If : ι → List Item) (Pf : ι → List (World → Prop)) (h1 : ∀ w, WS B w its ps → ∃ i, I i ∧ WS B w (If i) (Pf i)) (h : ∀ i, I i → Cj P N B c Q L (If i) (Pf i)) : Cj P N B c Q L its ps := by
  refine ⟨?_⟩
  intro a w hf hw
  obtain ⟨i, hi, hw'⟩ := h1 w hw
  exact h i hi a w hf hw'
theorem Jl.ws {ι : Type} (I : ι → Prop) (If : ι → List Item) (Pf : ι → List (World → Prop)) (h1 : ∀ w, WS B w its ps → ∃ i, I i ∧ WS B w (If i) (Pf i)) (h : ∀ i, I i → Jl P N B D k ops Q rest L (If i) (Pf i)) : Jl P N B D k ops Q rest L its ps := by
  refine ⟨?_⟩
  intro a w hf hw
  obtain ⟨i, hi, hw'⟩ := h1 w hw
  exact h i hi a w hf hw'
theorem Ej.ws {K : Act → World → Prop} {ι : Type} (I : ι → Prop) (If : ι → List Item) (Pf : ι → List (World → Prop)) (h1 : ∀ w, WS B w its ps → ∃ i, I i ∧ WS B w (If i) (Pf i)) (h : ∀ i, I i → Ej N B K L (If i) (Pf i)) : Ej N B K L its ps := by
  refine ⟨?_⟩
  intro a w hf hw
  obtain ⟨i, hi, hw'⟩ := h1 w hw
  exact h i hi a w hf hw'
/-- Some items (the youngest) are forgotten. -/
inductive DropTo : List Item → List Item → Prop
  | refl {r} : DropTo r r
  | tail {i r r'} : DropTo r r' → DropTo (i :: r) r'
theorem WS.dropTo {w : World} : ∀ {its its' : List Item}, DropTo its its' → WS B w its ps → WS B w its' ps
  | _, _, .refl, h => h
  | _, _, .tail d, h => WS.dropTo d (h.drop (n := 0) rfl)
theorem Ej.back {K : Act → World → Prop} (hK : ∀ a w, (Fr N a L' ∧ WS B w its' ps) → K a w) (hI : DropTo its its') (hL : Sub L' L) : Ej N B K L its ps := .mk <| fun a w hf hw => hK a w ⟨hf.sub hL, hw.dropTo hI⟩
theorem least {p : Nat → Prop} (h : ∃ n, p n) : ∃ n, p n ∧ ∀ m, p m → n ≤ m := by
  obtain ⟨n, hn⟩ := h
  induction n using Nat.strongRecOn with
  | _ n ih =>
    by_cases hex : ∃ m, m < n ∧ p m
    · obtain ⟨m, hlt, hm⟩ := hex
      exact ih m hlt hm
    · exact ⟨n, hn, fun m hm => Nat.le_of_not_lt fun hlt => hex ⟨m, hlt, hm⟩⟩
open Classical in
theorem Cj.loop {ι : Type} (I : ι → Prop) (Lf : ι → Sl) (If : ι → List Item) (Pf : ι → List (World → Prop)) (μ : ι → Nat) (hc : c = .loop c1) (i0 : ι) (h0 : I i0) (hL : Sub (Lf i0) L) (hI : its = If i0) (hp : ∀ p ∈ Pf i0, p ∈ ps)
    (h : ∀ i, I i → Cj P N B c1 (Exit.then (fun a w => ∃ j, (I j ∧ μ j < μ i) ∧ Fr N a (Lf j) ∧ WS B w (If j) (Pf j)) Q) (Lf i) (If i) (Pf i)) : Cj P N B c Q L its ps := by
  subst hc; subst hI
  refine ⟨?_⟩
  intro a w hf hw
  let J : Act → World → Nat → Prop := fun a w n => ∃ i, I i ∧ μ i = n ∧ Fr N a (Lf i) ∧ WS B w (If i) (Pf i)
  have hmin : ∀ a w, (∃ n, J a w n) → ∃ n, J a w n ∧ ∀ m, J a w m → n ≤ m := fun a w hn => least hn
  refine wp_loop (fun a w => ∃ n, J a w n) (fun a w => if h : ∃ n, J a w n then (hmin a w h).choose else 0) ⟨_, i0, h0, rfl, hf.sub hL, hw.sub hp⟩ (fun a w hJ => ?_)
  rw [dif_pos hJ]
  obtain ⟨i, hi, hμ, h1, h2⟩ := (hmin a w hJ).choose_spec.1
  refine Code.wp_mono (fun e a' w' q => ?_) (h i hi a w h1 h2)
  cases e with
  | normal =>
    obtain ⟨j, ⟨hj, hlt⟩, g1, g2⟩ := q
    have hJ' : ∃ n, J a' w' n := ⟨_, j, hj, rfl, g1, g2⟩
    refine ⟨hJ', ?_⟩
    rw [dif_pos hJ', ← hμ]
    exact Nat.lt_of_le_of_lt ((hmin a' w' hJ').choose_spec.2 _ ⟨j, hj, rfl, g1, g2⟩) hlt
  | exit _ => exact q
  | goto _ => exact q
  | ret => exact q
  | panic _ => exact q
  | outgrown => exact q
/-- The call's end: the one result in a slot. -/
theorem Ej.out1 {fn : Func} {R : Ending → World → Prop} {K : Act → World → Prop} (hK : ∀ a w, bodyPost P fn R .ret a w → K a w) (hr : fn.results = #[.tmp t]) (hv : lk L t = some v) (hR : ∀ w, WS B w its ps → R (.returned v) w) : Ej N B K L its ps := by
  refine ⟨?_⟩
  intro a w hf hw
  have := hf.at_ t v hv
  refine hK a w ⟨hf.defers, v, ?_, hR w hw⟩
  simp [results, hr, this]
theorem Ej.out2 {fn : Func} {R : Ending → World → Prop} {K : Act → World → Prop} (hK : ∀ a w, bodyPost P fn R .ret a w → K a w) {s : Nat} (hr : fn.results = #[.tmp t, .tmp s]) (hv : lk L t = some v) (hu : lk L s = some v2) (hR : ∀ w, WS B w its ps → R (.returned (.tuple #[v, v2])) w) : Ej N B K L its ps := by
  refine ⟨?_⟩
  intro a w hf hw
  have h1 := hf.at_ t v hv
  have h2 := hf.at_ s v2 hu
  refine hK a w ⟨hf.defers, _, ?_, hR w hw⟩
  simp [results, hr, h1, h2]
/-- A call begins: the arguments in the first slots. -/
def slots0 : Nat → List Value → Sl
  | _, [] => []
  | n, v :: r => (n, v) :: slots0 (n + 1) r
theorem slots0_lk : ∀ (args : List Value) (n : Nat) (t : Nat) (v : Value), lk (slots0 n args) t = some v → ∃ j, t = n + j ∧ args[j]? = some v
  | [], _, _, _, h => by simp [slots0, lk] at h
  | u :: r, n, t, v, h => by
    unfold slots0 lk at h
    by_cases e : n = t
    · subst e
      rw [show Nat.beq n n = true by simp] at h
      exact ⟨0, rfl, by simpa using h⟩
    · rw [beq_no e] at h
      obtain ⟨j, h1, h2⟩ := slots0_lk r (n + 1) t v h
      exact ⟨j + 1, by omega, by simpa using h2⟩
theorem enter {f : FuncId} {fn : Func} {args : List Value} {w : World} {R : Ending → World → Prop} (hf : P.funcs[f]? = some fn) (hb : fn.body = some c) (hN : fn.ntmps = N)
    (h : Cj P N (base w) c (bodyPost P fn R) (slots0 0 args) [] []) : Calls P f args.toArray w R := by
  refine calls_of_wp hf hb (h _ _ ⟨?_, rfl, fun t v hv => ?_⟩ (WS.start w))
  · simp only [Array.size_append, Array.size_replicate, List.size_toArray]; omega
  · obtain ⟨j, h1, h2⟩ := slots0_lk args 0 t v hv
    have hj : j < args.length := by
      rcases Nat.lt_or_ge j args.length with h' | h'
      · exact h'
      · rw [List.getElem?_eq_none h'] at h2; cases h2
    rw [show t = j by omega, Array.getElem?_append_left (by simpa using hj)]
    simpa using h2
theorem enterS {f : FuncId} {fn : Func} {args : List Value} {w : World} {S : Nat → Prop} {R : Ending → World → Prop} (its : List Item) (ps : List (World → Prop)) (hO : Own its w S) (hp : ∀ p ∈ ps, Sta S w p) (hf : P.funcs[f]? = some fn) (hb : fn.body = some c) (hN : fn.ntmps = N)
    (h : Cj P N ⟨w, S⟩ c (bodyPost P fn R) (slots0 0 args) its ps) : Calls P f args.toArray w R := by
  refine calls_of_wp hf hb (h _ _ ⟨?_, rfl, fun t v hv => ?_⟩ (WS.startW hO hp))
  · simp only [Array.size_append, Array.size_replicate, List.size_toArray]; omega
  · obtain ⟨j, h1, h2⟩ := slots0_lk args 0 t v hv
    have hj : j < args.length := by
      rcases Nat.lt_or_ge j args.length with h' | h'
      · exact h'
      · rw [List.getElem?_eq_none h'] at h2; cases h2
    rw [show t = j by omega, Array.getElem?_append_left (by simpa using hj)]
    simpa using h2
theorem enterW {f : FuncId} {fn : Func} {args : List Value} {w : World} {R : Ending → World → Prop} (ps : List (World → Prop)) (hp : ∀ p ∈ ps, ∀ W, Below w.heap.size w W → p W) (hf : P.funcs[f]? = some fn) (hb : fn.body = some c) (hN : fn.ntmps = N)
    (h : Cj P N (base w) c (bodyPost P fn R) (slots0 0 args) [] ps) : Calls P f args.toArray w R :=
  enterS [] ps (fun k h => h) (fun p hp' W hm => hp p hp' W (hm.all (fun _ _ h => h))) hf hb hN h

/-! #### operations -/
theorem Jl.e {ι : Type} (val : ι → Value) (its' : ι → List Item) (ps' : ι → List (World → Prop)) (hw : wants ops L o = some true) (hd : o.dst = some d) (hN : Nat.blt d N = true)
    (h1 : ∀ a w, Fr N a L → WS B w its ps → ∃ i w', (execOp a.eval o).run P w = .ok (.value (val i)) w' ∧ (D.needs k = true → Below w.heap.size w w') ∧ WS B w' (its' i) (ps' i))
    (h : ∀ i, Jl P N B D (k + 1) ops Q rest ((d, val i) :: L) (its' i) (ps' i)) (hD : D.takes k = false := by rfl) : Jl P N B D k ops Q (o :: rest) L its ps := by
  refine ⟨?_⟩
  intro a w hf hW
  obtain ⟨i, w', hr, hb, hW'⟩ := h1 a w hf hW
  unfold runG
  rw [if_neg (by rw [hD]; simp), if_pos (hf.wants hw)]
  unfold Oper.wp
  rw [hr, Oper.upon_value, hd]
  exact ⟨hb, h i _ _ (hf.put hN _) hW'⟩
theorem Jl.un (its' : List Item) (hw : wants ops L o = some true) (hd : o.dst = none)
    (h1 : ∀ a w, Fr N a L → WS B w its ps → ∃ w', (execOp a.eval o).run P w = .ok .skip w' ∧ WS B w' its' ps)
    (h : Jl P N B D (k + 1) ops Q rest L its' ps) (hD : D.takes k = false := by rfl) (hE : D.needs k = false := by rfl) : Jl P N B D k ops Q (o :: rest) L its ps := by
  refine ⟨?_⟩
  intro a w hf hW
  obtain ⟨w', hr, hW'⟩ := h1 a w hf hW
  unfold runG
  rw [if_neg (by rw [hD]; simp), if_pos (hf.wants hw)]
  unfold Oper.wp
  rw [hr, Oper.upon_skip, hd]
  exact ⟨fun h' => (by rw [hE] at h'; cases h'), h _ _ (hf.put_none _) hW'⟩
/-- What yields and touches nothing. -/
theorem Jl.yd (hy : Yd P N B o v L its ps) (hw : wants ops L o = some true) (hd : o.dst = some d) (hN : Nat.blt d N = true) (h : Jl P N B D (k + 1) ops Q rest ((d, v) :: L) its ps) : Jl P N B D k ops Q (o :: rest) L its ps := by
  refine ⟨?_⟩
  intro a w hf hW
  unfold runG
  by_cases ht : D.takes k = true
  · rw [if_pos ht]
    refine ⟨v, .inl ⟨hf.wants hw, fun W hb => hy a W hf (hW.call hb)⟩, ?_⟩
    rw [hd]
    exact h _ _ (hf.put hN _) hW
  · rw [if_neg ht, if_pos (hf.wants hw)]
    unfold Oper.wp
    rw [hy a w hf hW, Oper.upon_value, hd]
    exact ⟨fun _ => Below.refl _ _, h _ _ (hf.put hN _) hW⟩
/-- Not carried out. -/
theorem Jl.off (hw : wants ops L o = some false) (hd : o.dst = some d) (hN : Nat.blt d N = true) (h : Jl P N B D (k + 1) ops Q rest ((d, undef) :: L) its ps) : Jl P N B D k ops Q (o :: rest) L its ps := by
  refine ⟨?_⟩
  intro a w hf hW
  unfold runG
  by_cases ht : D.takes k = true
  · rw [if_pos ht]
    refine ⟨undef, .inr ⟨hf.wants hw, rfl⟩, ?_⟩
    rw [hd]
    exact h _ _ (hf.put hN _) hW
  · rw [if_neg ht, if_neg (by rw [hf.wants hw]; simp), hd]
    exact h _ _ (hf.put hN _) hW
/-- A Bool in a slot: both cases. -/
theorem Jl.split (t : Nat) (hb : lk L t = some (.bool b)) (ht : b = true → Jl P N B D k ops Q rest ((t, .bool true) :: L) its ps) (hf : b = false → Jl P N B D k ops Q rest ((t, .bool false) :: L) its ps) : Jl P N B D k ops Q rest L its ps := by
  refine ⟨?_⟩
  intro a w hF hW
  cases hb' : b with
  | true => exact ht hb' a w ⟨hF.size, hF.defers, fun s u hs => by
      unfold lk at hs
      by_cases e : t = s
      · subst e
        rw [show Nat.beq t t = true by simp] at hs
        rw [hF.at_ t _ hb, hb']; simpa using hs
      · rw [beq_no e] at hs; exact hF.at_ s u hs⟩ hW
  | false => exact hf hb' a w ⟨hF.size, hF.defers, fun s u hs => by
      unfold lk at hs
      by_cases e : t = s
      · subst e
        rw [show Nat.beq t t = true by simp] at hs
        rw [hF.at_ t _ hb, hb']; simpa using hs
      · rw [beq_no e] at hs; exact hF.at_ s u hs⟩ hW
def gslot (ops : Array Oper) (o : Oper) : Option Nat := match o.guard with
  | none => none
  | some (j, _) => (ops[j]?).bind (·.dst)
/-- The guard of what comes next: both cases. -/
theorem Jl.splitG (hg : gslot ops o = some t) (hb : lk L t = some (.bool b)) (ht : b = true → Jl P N B D k ops Q (o :: rest) ((t, .bool true) :: L) its ps) (hf : b = false → Jl P N B D k ops Q (o :: rest) ((t, .bool false) :: L) its ps) : Jl P N B D k ops Q (o :: rest) L its ps := Jl.split t hb ht hf
/-- What stands in a slot, said otherwise. -/
theorem Jl.as (t : Nat) (v : Value) (hb : lk L t = some v2) (e : v2 = v) (h : Jl P N B D k ops Q rest ((t, v) :: L) its ps) : Jl P N B D k ops Q rest L its ps := by
  subst e
  refine ⟨?_⟩
  intro a w hF hW
  exact h a w ⟨hF.size, hF.defers, fun s x hs => by
      unfold lk at hs
      by_cases e : t = s
      · subst e
        rw [show Nat.beq t t = true by simp] at hs
        rw [hF.at_ t _ hb]; simpa using hs
      · rw [beq_no e] at hs; exact hF.at_ s x hs⟩ hW
def arOp : BinOp → Int → Int → Option Int
  | .add, p, q => some (p + q)
  | .sub, p, q => some (p - q)
  | .mul, p, q => some (p * q)
  | _, _, _ => none
def rlOp : BinOp → Int → Int → Option Prop
  | .eql, p, q => some (p = q)
  | .neq, p, q => some (p ≠ q)
  | .lss, p, q => some (p < q)
  | .leq, p, q => some (p ≤ q)
  | .gtr, p, q => some (p > q)
  | .geq, p, q => some (p ≥ q)
  | _, _, _ => none
def dcOp : BinOp → Int → Int → Option Bool
  | .eql, p, q => some (decide (p = q))
  | .neq, p, q => some (decide (p ≠ q))
  | .lss, p, q => some (decide (p < q))
  | .leq, p, q => some (decide (p ≤ q))
  | .gtr, p, q => some (decide (p > q))
  | .geq, p, q => some (decide (p ≥ q))
  | _, _, _ => none
def bbOp : BinOp → Bool → Bool → Option Bool
  | .eql, p, q => some (p == q)
  | .neq, p, q => some (p != q)
  | _, _, _ => none
namespace Y
variable {x y z : Operand}
theorem mv (hop : o.op = .move x) (hx : ev L x = some v) : Yd P N B o v L its ps := .mk <| fun a w hf _ => by
  unfold execOp; rw [hop]; simp [hf.ev hx]
theorem asg (hop : o.op = .assign x) (hx : ev L x = some v) : Yd P N B o v L its ps := .mk <| fun a w hf _ => by
  unfold execOp; rw [hop]; simp [hf.ev hx]
theorem pickT (hop : o.op = .pick x y z) (hx : ev L x = some (.bool true)) (hy : ev L y = some v) : Yd P N B o v L its ps := .mk <| fun a w hf _ => by
  unfold execOp; rw [hop]; simp [hf.ev hx, hf.ev hy, asBool]
theorem pickF (hop : o.op = .pick x y z) (hx : ev L x = some (.bool false)) (hz : ev L z = some v) : Yd P N B o v L its ps := .mk <| fun a w hf _ => by
  unfold execOp; rw [hop]; simp [hf.ev hx, hf.ev hz, asBool]
theorem ext {us : List Value} {i : Nat} (hop : o.op = .extract x i) (hx : ev L x = some (.tuple us.toArray)) (hv : us[i]? = some v) : Yd P N B o v L its ps := .mk <| fun a w hf _ => by
  unfold execOp; rw [hop]; simp [hf.ev hx, Instr.extract, hv]
/-- A binary operation on two numbers, or Bools, or texts: what it yields is told by its own run. -/
theorem bin {op : BinOp} {tx ty : TypeId} {p q : Value} (hop : o.op = .binOp op tx x y ty) (hx : ev L x = some p) (hy : ev L y = some q) (hr : ∀ w, (do eqGuard op tx x y p q; binOp op tx p q : Sem Value).run P w = .ok v w) : Yd P N B o v L its ps := .mk <| fun a w hf _ => by
  unfold execOp; rw [hop]; simp only [hf.ev hx, hf.ev hy]
  rw [Sem.run_bind, hr w]; rfl
theorem un {op : UnOp} {tx : TypeId} {p : Value} (hop : o.op = .unOp op tx x) (hx : ev L x = some p) (hr : ∀ w, (Op.unary op p).run P w = .ok v w) : Yd P N B o v L its ps := .mk <| fun a w hf _ => by
  unfold execOp; rw [hop]; simp only [hf.ev hx]
  rw [Sem.run_bind, hr w]; rfl
theorem cmp {op : BinOp} {tx ty : TypeId} {k : IntKind} {p q : Int} (hop : o.op = .binOp op tx x y ty) (hx : ev L x = some (.int k p)) (hy : ev L y = some (.int k q)) (hr : dcOp op p q = some b) : Yd P N B o (.bool b) L its ps := by
  refine bin hop hx hy (fun w => ?_)
  have e1 : (p == q) = decide (p = q) := by simp [BEq.beq]
  have e2 : (p != q) = decide (p ≠ q) := by simp [bne, e1]
  cases op <;> simp only [arOp, rlOp, dcOp, bbOp, Option.some.injEq, reduceCtorEq] at hr <;> subst hr <;> simp [eqGuard, binOp, Op.intCmp, e1, e2]
theorem cmpF {op : BinOp} {tx ty : TypeId} {k : IntKind} {p q : Int} {φ : Prop} (hop : o.op = .binOp op tx x y ty) (hx : ev L x = some (.int k p)) (hy : ev L y = some (.int k q)) (hr : rlOp op p q = some φ) (hn : ¬ φ) : Yd P N B o (.bool false) L its ps := by
  refine cmp (P := P) (N := N) (B := B) (its := its) (ps := ps) hop hx hy ?_
  cases op <;> simp only [arOp, rlOp, dcOp, bbOp, Option.some.injEq, reduceCtorEq] at hr ⊢ <;> subst hr <;> exact decide_eq_false hn
theorem cmpT {op : BinOp} {tx ty : TypeId} {k : IntKind} {p q : Int} {φ : Prop} (hop : o.op = .binOp op tx x y ty) (hx : ev L x = some (.int k p)) (hy : ev L y = some (.int k q)) (hr : rlOp op p q = some φ) (hn : φ) : Yd P N B o (.bool true) L its ps := by
  refine cmp (P := P) (N := N) (B := B) (its := its) (ps := ps) hop hx hy ?_
  cases op <;> simp only [arOp, rlOp, dcOp, bbOp, Option.some.injEq, reduceCtorEq] at hr ⊢ <;> subst hr <;> exact decide_eq_true hn
theorem cmpB {op : BinOp} {tx ty : TypeId} {p q : Bool} (ht : P.underlying tx = some .bool) (hop : o.op = .binOp op tx x y ty) (hx : ev L x = some (.bool p)) (hy : ev L y = some (.bool q)) (hr : bbOp op p q = some b) : Yd P N B o (.bool b) L its ps := by
  refine bin hop hx hy (fun w => ?_)
  have h1 := run_eql_bool (P := P) (w := w) tx p q ht
  have h2 := run_neq_bool (P := P) (w := w) tx p q ht
  cases op <;> simp only [arOp, rlOp, dcOp, bbOp, Option.some.injEq, reduceCtorEq] at hr <;> subst hr
  · rw [Sem.run_bind]; simp [eqGuard, h1]
  · rw [Sem.run_bind]; simp [eqGuard, h2]; cases p <;> cases q <;> rfl
theorem arith {op : BinOp} {tx ty : TypeId} {k : IntKind} {p q r : Int} (hop : o.op = .binOp op tx x y ty) (hx : ev L x = some (.int k p)) (hy : ev L y = some (.int k q)) (hr : arOp op p q = some r) : Yd P N B o (.int k (k.wrap r)) L its ps := by
  refine bin hop hx hy (fun w => ?_)
  cases op <;> simp only [arOp, rlOp, dcOp, bbOp, Option.some.injEq, reduceCtorEq] at hr <;> subst hr <;> simp [eqGuard, binOp, Op.intArith]
theorem neqB {tx ty : TypeId} {p : Bool} (hop : o.op = .binOp .neq tx x y ty) (hx : ev L x = some (.bool p)) (hy : ev L y = some (.bool p)) (ht : P.underlying tx = some .bool) : Yd P N B o (.bool false) L its ps :=
  cmpB ht hop hx hy (by simp [bbOp])
theorem arith64 {op : BinOp} {tx ty : TypeId} {p q r : Int} (hop : o.op = .binOp op tx x y ty) (hx : ev L x = some (.int .i64 p)) (hy : ev L y = some (.int .i64 q)) (hr : arOp op p q = some r) : Yd P N B o (.int .i64 (wrap64 r)) L its ps := by
  have := arith (P := P) (N := N) (B := B) (its := its) (ps := ps) hop hx hy hr
  rw [IntKind.wrap_i64] at this
  unfold wrap64
  exact this
/-- 64 bits, within bounds. -/
theorem arithN {op : BinOp} {tx ty : TypeId} {p q r : Int} (hop : o.op = .binOp op tx x y ty) (hx : ev L x = some (.int .i64 p)) (hy : ev L y = some (.int .i64 q)) (hr : arOp op p q = some r) (hb : -9223372036854775808 ≤ r ∧ r ≤ 9223372036854775807) : Yd P N B o (.int .i64 r) L its ps := by
  have := arith (P := P) (N := N) (B := B) (its := its) (ps := ps) hop hx hy hr
  rw [IntKind.wrap_i64] at this
  have e : (r + 9223372036854775808) % 18446744073709551616 - 9223372036854775808 = r := by omega
  rwa [e] at this
theorem not (hop : o.op = .unOp .not T x) (hx : ev L x = some (.bool b)) : Yd P N B o (.bool (!b)) L its ps := un hop hx (fun w => by simp [Op.unary])
theorem lenS {ts : Array TypeId} {A : Option Addr} {m c e : Nat} (ht : P.underlying T = some (.slice e)) (hop : o.op = .call { callee := .builtin .len, args := #[x], argTypes := ts }) (hts : ts[0]? = some T) (hx : ev L x = some (.slice A m c)) : Yd P N B o (.int .i64 m) L its ps := .mk <| fun a w hf _ => by
  unfold execOp; rw [hop]
  simp [resolve, invoke, builtin, Builtin.len_, hts, hf.ev hx, run_underlying ht, goInt]
end Y
end
end Go.Proofs.YtcgpibbbkdhpeaaW.SL

namespace Go.Proofs.YtcgpibbbkdhpeaaW.SL
open Go Go.RowKit Go.Proofs.YtcgpibbbkdhpeaaW.PrintWords
set_option linter.unusedSimpArgs false
set_option linter.unusedVariables false

/-! #### what is asked of types -/
def aggT (P : Program) (T : TypeId) : Option Nat := match P.underlying T with
  | some (.struct _) => (P.info? T).map (·.size)
  | some (.array _ _) => (P.info? T).map (·.size)
  | _ => none
def scT (P : Program) (T : TypeId) : Bool := match P.underlying T with
  | some (.struct _) => false
  | some (.array _ _) => false
  | some _ => decide ((P.info? T).map (·.size) = some 1)
  | none => false
def zeroT (P : Program) (T : TypeId) : Option (List Value) := ((P.info? T).bind (·.zero)).map (·.cells.toList)
def fldT (P : Program) (S : TypeId) (f : Nat) : Option Nat := match P.underlying S with
  | some (.struct fs) => (fs[f]?).bind fun fl => (P.info? fl.type).bind fun i => if i.size = 0 then none else some fl.offset
  | _ => none
def elT (P : Program) (T : TypeId) : Option (TypeId × Nat) := match P.underlying T with
  | some (.slice e) => (P.info? e).map fun i => (e, i.size)
  | _ => none
/-! Facts on types and functions, in structures (two of them that do not fit are told apart at once). -/
structure AggT (P : Program) (T m : Nat) : Prop where mk :: (out : aggT P T = some m)
structure ScT (P : Program) (T : Nat) : Prop where mk :: (out : scT P T = true)
structure ZeroT (P : Program) (T : Nat) (zs : List Value) : Prop where mk :: (out : zeroT P T = some zs)
structure SzT (P : Program) (T m : Nat) : Prop where mk :: (out : (P.info? T).map (·.size) = some m)
structure FldT (P : Program) (S f off : Nat) : Prop where mk :: (out : fldT P S f = some off)
structure ElT (P : Program) (T e m : Nat) : Prop where mk :: (out : elT P T = some (e, m))
structure Ent (P : Program) (f : Nat) : Prop where mk :: (out : ∀ args w, (callFunc f args).run P w = .ok (.enter f args) w)
def allOne : List Value → Bool
  | [] => true
  | v :: r => v.oneCell' && allOne r
theorem allOne_mem : ∀ {us : List Value}, allOne us = true → ∀ u ∈ us, u.oneCell' = true
  | [], _, u, hu => by cases hu
  | v :: r, h, u, hu => by
    unfold allOne at h
    rw [Bool.and_eq_true] at h
    rcases List.mem_cons.1 hu with rfl | hu
    · exact h.1
    · exact allOne_mem h.2 u hu
/-- Item i of its is i' in its'. -/
inductive SetAt (i i' : Item) : List Item → List Item → Prop
  | z {r} : SetAt i i' (i :: r) (i' :: r)
  | s {j r r'} : SetAt i i' r r' → SetAt i i' (j :: r) (j :: r')
theorem SetAt.at {i i' : Item} : ∀ {its its' : List Item}, SetAt i i' its its' → ∃ n, its[n]? = some i ∧ its' = its.set n i'
  | _, _, .z => ⟨0, rfl, rfl⟩
  | _, _, .s h => by
    obtain ⟨n, h1, h2⟩ := SetAt.at h
    exact ⟨n + 1, by simpa using h1, by simp [h2]⟩
/-- Item i taken out of its. -/
inductive OutAt (i : Item) : List Item → List Item → Prop
  | z {r} : OutAt i (i :: r) r
  | s {j r r'} : OutAt i r r' → OutAt i (j :: r) (j :: r')
theorem OutAt.at {i : Item} : ∀ {its its' : List Item}, OutAt i its its' → ∃ n, its[n]? = some i ∧ its' = its.eraseIdx n
  | _, _, .z => ⟨0, rfl, rfl⟩
  | _, _, .s h => by
    obtain ⟨n, h1, h2⟩ := OutAt.at h
    exact ⟨n + 1, by simpa using h1, by simp [h2]⟩
/-- Cell n of cs is v in cs'. -/
inductive PutAt (v : Value) : Nat → List Value → List Value → Prop
  | z {u r} : PutAt v 0 (u :: r) (v :: r)
  | s {n u r r'} : PutAt v n r r' → PutAt v (n + 1) (u :: r) (u :: r')
theorem PutAt.wr {v : Value} : ∀ {n : Nat} {cs cs' : List Value}, PutAt v n cs cs' → n + 1 ≤ cs.length ∧ cs' = cs.take n ++ ([v] ++ cs.drop (n + 1))
  | _, _, _, .z => ⟨by simp, by simp⟩
  | _, _, _, .s h => by
    obtain ⟨h1, h2⟩ := PutAt.wr h
    exact ⟨by simp; omega, by simp [h2]⟩
/-- Cells written from off on. -/
def wr (cs : List Value) (off : Nat) (us : List Value) : List Value := cs.take off ++ (us ++ cs.drop (off + us.length))

section
variable {P : Program} {w : World}
theorem run_zeroT {T : TypeId} {zs : List Value} (h : zeroT P T = some zs) : ∃ z, (zeroValue T).run P w = .ok z w ∧ z.cells.toList = zs := by
  unfold zeroT at h
  cases hi : P.info? T with
  | none => simp [hi] at h
  | some i =>
    cases hz : i.zero with
    | none => simp [hi, hz] at h
    | some z =>
      simp only [hi, Option.bind_some, hz, Option.map_some, Option.some.injEq] at h
      exact ⟨z, by simp [zeroValue, typeInfo, hi, hz], h⟩
theorem aggT_run {T : TypeId} {m : Nat} (h : aggT P T = some m) : (isAgg T).run P w = .ok true w ∧ (sizeOf T).run P w = .ok m w := by
  unfold aggT at h
  cases hu : P.underlying T with
  | none => simp [hu] at h
  | some d =>
    have hs : (P.info? T).map (·.size) = some m ∧ ((match d with | .struct _ | .array _ _ => true | _ => false) = true) := by
      cases d <;> simp_all
    obtain ⟨i, hi, rfl⟩ := Option.map_eq_some_iff.1 hs.1
    refine ⟨?_, by simp [sizeOf, typeInfo, hi]⟩
    unfold isAgg
    rw [Sem.run_bind, run_underlying hu w]
    have := hs.2
    cases d <;> simp_all
theorem scT_run {T : TypeId} (h : scT P T = true) : (isAgg T).run P w = .ok false w ∧ (sizeOf T).run P w = .ok 1 w := by
  unfold scT at h
  cases hu : P.underlying T with
  | none => simp [hu] at h
  | some d =>
    have hs : (P.info? T).map (·.size) = some 1 ∧ ((match d with | .struct _ | .array _ _ => true | _ => false) = false) := by
      cases d <;> simp_all
    obtain ⟨i, hi, hi1⟩ := Option.map_eq_some_iff.1 hs.1
    refine ⟨?_, by simp [sizeOf, typeInfo, hi, hi1]⟩
    unfold isAgg
    rw [Sem.run_bind, run_underlying hu w]
    have := hs.2
    cases d <;> simp_all
theorem run_load_agg {T : TypeId} {ad : Addr} {us : List Value} (h : aggT P T = some us.length) (hc : Cells w ad us) : (Instr.loadAt T (.pointer (some ad))).run P w = .ok (.agg us.toArray) w := by
  obtain ⟨h1, h2⟩ := aggT_run (w := w) h
  have hl : (loadCells ad us.length).run P w = .ok us.toArray w := run_loadCells_list (P := P) w ad us hc
  simp [Instr.loadAt, Instr.sureAddr, loadVar, h1, h2, hl]
theorem run_load_one {T : TypeId} {ad : Addr} {u : Value} (h : scT P T = true) (hc : w.cell? ad = some u) : (Instr.loadAt T (.pointer (some ad))).run P w = .ok u w := by
  obtain ⟨h1, h2⟩ := scT_run (w := w) h
  simp [Instr.loadAt, Instr.sureAddr, loadVar, h1, load, Sem.run, hc]
theorem run_fieldAt {S f off : Nat} {ad : Addr} (h : fldT P S f = some off) : (Instr.fieldAt S (.pointer (some ad)) f).run P w = .ok (.pointer (some (ad.add off))) w := by
  unfold fldT at h
  cases hu : P.underlying S with
  | none => simp [hu] at h
  | some d =>
    cases d <;> simp only [hu, reduceCtorEq] at h
    rename_i fs
    obtain ⟨fl, hf, h⟩ := Option.bind_eq_some_iff.1 h
    obtain ⟨i, hi, h⟩ := Option.bind_eq_some_iff.1 h
    have h0 : i.size ≠ 0 := fun e => by simp [e] at h
    rw [if_neg h0] at h
    obtain rfl := Option.some.inj h
    simp [Instr.fieldAt, run_underlying hu, hf, Instr.sureAddr, fieldPlace, sizeOf, typeInfo, hi, h0]
theorem run_indexAt {T e size len c : Nat} {ad : Addr} {k : IntKind} {i : Int} (h : elT P T = some (e, size)) (h0 : 0 ≤ i) (h1 : i < (len : Int)) : (Instr.indexAt T (.slice (some ad) len c) (.int k i)).run P w = .ok (.pointer (some (ad.add (i.toNat * size)))) w := by
  unfold elT at h
  cases hu : P.underlying T with
  | none => simp [hu] at h
  | some d =>
    cases d <;> simp [hu] at h
    rename_i e'
    obtain ⟨j, hj, rfl, rfl⟩ := h
    simp [Instr.indexAt, run_underlying hu, asIntOf, h0, h1, sizeOf, typeInfo, hj]
theorem storeCells_run {g T : Nat} : ∀ (us : List Value) (i : Nat) (ad : Addr) (cs : List Value) (w : World), ad.block = g → ad.spot = none → w.heap[g]? = some (.cells cs.toArray T (0, 0)) → ad.off + i + us.length ≤ cs.length → (∀ u ∈ us, u.oneCell' = true) →
    ∃ w', (storeCells ad us i).run P w = .ok () w' ∧ w'.heap[g]? = some (.cells (wr cs (ad.off + i) us).toArray T (0, 0)) ∧ w'.os = w.os ∧ w'.tape = w.tape ∧ w'.output = w.output ∧ w'.heap.size = w.heap.size ∧ ∀ k, k ≠ g → w'.heap[k]? = w.heap[k]?
  | [], i, ad, cs, w, hb, hs, hg, hl, h1 => ⟨w, by simp [storeCells], by simpa [wr] using hg, rfl, rfl, rfl, rfl, fun _ _ => rfl⟩
  | u :: r, i, ad, cs, w, hb, hs, hg, hl, h1 => by
    have hlt : ad.off + i < cs.length := by simp at hl; omega
    have hadd : ad.add i = ⟨g, ad.off + i, none⟩ := by
      unfold Addr.add
      split
      · rename_i h0; subst h0; cases ad; simp_all
      · cases ad; simp_all
    have hcell : w.cell? ⟨g, ad.off + i, none⟩ = some cs[ad.off + i] := by simp [World.cell?, hg, hlt]
    have hfro : w.frozen? ⟨g, ad.off + i, none⟩ = false := by simp [World.frozen?, hg]
    have hst : (store (ad.add i) u).run P w = .ok () (w.setCell ⟨g, ad.off + i, none⟩ u) := by
      rw [hadd, run_store P w _ u _ (h1 u (by simp)), hcell]
      simp [hfro]
    have hg' := blk_set hg (ad.off + i) u
    have hg'' : (w.setCell ⟨g, ad.off + i, none⟩ u).heap[g]? = some (.cells (cs.set (ad.off + i) u).toArray T (0, 0)) := by rw [hg']; simp
    obtain ⟨w', e1, e2, e3, e4, e5, e6, e7⟩ := storeCells_run r (i + 1) ad (cs.set (ad.off + i) u) _ hb hs hg'' (by simp at hl ⊢; omega) (fun x hx => h1 x (by simp [hx]))
    refine ⟨w', by simp only [storeCells, Sem.run_bind, hst, Result.andThen_ok, e1], ?_, e3, e4, e5, by rw [e6]; simp, fun k hk => (e7 k hk).trans (Below.heap_setCell w ⟨g, ad.off + i, none⟩ u k hk)⟩
    rw [e2]
    congr 3
    unfold wr
    rw [show ad.off + (i + 1) = (ad.off + i) + 1 by omega]
    generalize ad.off + i = m at hlt
    apply List.ext_getElem?
    intro k
    simp only [List.getElem?_append, List.length_take, List.length_set, List.length_cons, List.getElem?_drop, List.getElem?_take, List.getElem?_set]
    by_cases hk : k < m
    · simp [show min m cs.length = m by omega, show min (m + 1) cs.length = m + 1 by omega, hk, show k < m + 1 by omega, show ¬ m = k by omega]
    · by_cases hk2 : k = m
      · subst hk2
        simp [show min k cs.length = k by omega, show min (k + 1) cs.length = k + 1 by omega, hlt]
      · have h3 : ¬ k < m + 1 := by omega
        simp only [show min m cs.length = m by omega, show min (m + 1) cs.length = m + 1 by omega, if_neg hk, if_neg h3]
        rw [show k - m = (k - (m + 1)) + 1 by omega]
        simp only [List.getElem?_cons_succ]
        by_cases h4 : k - (m + 1) < r.length
        · simp [h4]
        · simp [h4, Nat.add_assoc, Nat.add_comm 1, show ¬ m = m + 1 + r.length + (k - (m + 1) - r.length) by omega, show m + (r.length + 1) + (k - (m + 1) + 1 - (r.length + 1)) = m + 1 + r.length + (k - (m + 1) - r.length) by omega]
end

section
variable {P : Program} {N : Nat} {B : Base} {L L' : Sl} {its its' : List Item} {ps ps' : List (World → Prop)} {Q : Exit → Act → World → Prop} {D : Dm} {k : Nat} {ops : Array Oper} {rest : List Oper} {o : Oper} {d T n m : Nat} {v v2 : Value} {b : Bool} {x y z : Operand} {cs zs us : List Value} {g off T' : Nat} {ad : Addr}
theorem Box_at {w : World} (h : WS B w its ps) (hn : Item.box g T' cs ∈ its) : w.heap[g]? = some (.cells cs.toArray T' (0, 0)) := by
  obtain ⟨_, S, h2, _, _⟩ := h
  obtain ⟨n, hn⟩ := List.mem_iff_getElem?.1 hn
  obtain ⟨A, g1, _⟩ := h2.focus hn
  exact g1.1
theorem Box_cells {w : World} (h : w.heap[g]? = some (.cells cs.toArray T' (0, 0))) (off : Nat) : Cells w ⟨g, off, none⟩ (cs.drop off) := by
  intro j u hu
  have : (⟨g, off, none⟩ : Addr).add j = ⟨g, off + j, none⟩ := by unfold Addr.add; split <;> simp_all
  rw [this, blk_cell h]
  simpa using hu
namespace Y
theorem loadA (hop : o.op = .load T x) (hx : ev L x = some (.pointer (some ⟨g, 0, none⟩))) (hT : AggT P T m) (hn : Item.box g T' cs ∈ its) (hl : Nat.beq cs.length m = true) : Yd P N B o (.agg cs.toArray) L its ps := .mk <| fun a w hf hW => by
  obtain rfl := Nat.eq_of_beq_eq_true hl
  have hc := Box_cells (Box_at hW hn) 0
  simp only [List.drop_zero] at hc
  unfold execOp; rw [hop]; simp [hf.ev hx, run_load_agg hT.out hc]
theorem load1 (hop : o.op = .load T x) (hx : ev L x = some (.pointer (some ⟨g, off, none⟩))) (hT : ScT P T) (hn : Item.box g T' cs ∈ its) (hv : cs[off]? = some v) : Yd P N B o v L its ps := .mk <| fun a w hf hW => by
  have hc := blk_cell (Box_at hW hn) off
  unfold execOp; rw [hop]; simp [hf.ev hx, run_load_one hT.out (hc.trans (by simpa using hv))]
theorem loadG {ad' : Addr} (hop : o.op = .load T x) (hx : ev L x = some (.pointer (some ad'))) (hp : (fun w => Cells w ad us) ∈ ps) (hT : ScT P T) (m : Nat) (had : ad' = ad.add m) (hv : us[m]? = some v) : Yd P N B o v L its ps := .mk <| fun a w hf hW => by
  have hc : w.cell? ad' = some v := by rw [had]; exact hW.fact hp m v hv
  unfold execOp; rw [hop]; simp [hf.ev hx, run_load_one hT.out hc]
theorem fld {S f : Nat} (hop : o.op = .fieldAddr S x f) (hx : ev L x = some (.pointer (some ad))) (hT : FldT P S f off) : Yd P N B o (.pointer (some (ad.add off))) L its ps := .mk <| fun a w hf hW => by
  unfold execOp; rw [hop]; simp [hf.ev hx, run_fieldAt hT.out]
/-- The same in a block of the call's own. -/
theorem fldB {S f m : Nat} (hop : o.op = .fieldAddr S x f) (hx : ev L x = some (.pointer (some ⟨g, m, none⟩))) (hT : FldT P S f off) : Yd P N B o (.pointer (some ⟨g, m + off, none⟩)) L its ps := by
  have h := fld (P := P) (N := N) (B := B) (its := its) (ps := ps) hop hx hT
  have : (⟨g, m, none⟩ : Addr).add off = ⟨g, m + off, none⟩ := by unfold Addr.add; split <;> simp_all
  rwa [this] at h
theorem fld0 {S f : Nat} (hop : o.op = .fieldAddr S x f) (hx : ev L x = some (.pointer (some ⟨g, 0, none⟩))) (hT : FldT P S f off) : Yd P N B o (.pointer (some ⟨g, off, none⟩)) L its ps := by
  have h := fldB (P := P) (N := N) (B := B) (its := its) (ps := ps) hop hx hT
  rwa [Nat.zero_add] at h
theorem idx {e size len c : Nat} {k : IntKind} {i : Int} (hop : o.op = .indexAddr T x y) (hx : ev L x = some (.slice (some ad) len c)) (hy : ev L y = some (.int k i)) (hT : ElT P T e size) (h0 : 0 ≤ i) (h1 : i < (len : Int)) : Yd P N B o (.pointer (some (ad.add (i.toNat * size)))) L its ps := .mk <| fun a w hf hW => by
  unfold execOp; rw [hop]; simp [hf.ev hx, hf.ev hy, run_indexAt hT.out h0 h1]
end Y
theorem WS.alloc {w : World} (h : WS B w its ps) (T : Nat) (cs : Array Value) : WS B (w.alloc (.cells cs T)) (.box w.heap.size T cs.toList :: its) ps :=
  h.new (below_alloc (Below.refl _ _) _) (A := fun k => k = w.heap.size) ⟨by simpa using heap_alloc_new w (.cells cs T), fun k => Iff.rfl⟩ (fun k hk => by rw [hk]; exact Nat.le_refl _)
theorem Jl.alloc (hw : wants ops L o = some true) (hop : o.op = .alloc T) (hd : o.dst = some d) (hN : Nat.blt d N = true) (hz : ZeroT P T zs)
    (h : ∀ g, Jl P N B D (k + 1) ops Q rest ((d, .pointer (some ⟨g, 0, none⟩)) :: L) (Item.box g T zs :: its) ps) (hD : D.takes k = false := by rfl) : Jl P N B D k ops Q (o :: rest) L its ps :=
  Jl.e (fun g : Nat => .pointer (some ⟨g, 0, none⟩)) (fun g => Item.box g T zs :: its) (fun _ => ps) hw hd hN (fun a w hf hW => by
    obtain ⟨z, h1, h2⟩ := run_zeroT (w := w) hz.out
    refine ⟨w.heap.size, w.alloc (.cells z.cells T), ?_, fun _ => below_alloc (Below.refl _ _) _, ?_⟩
    · unfold execOp; rw [hop]; simp [Instr.alloc, h1, newVar, newRow]
    · have := hW.alloc T z.cells
      rwa [h2] at this) h hD
theorem Jl.box (hw : wants ops L o = some true) (hop : o.op = .box T x) (hd : o.dst = some d) (hN : Nat.blt d N = true) (hx : ev L x = some v) (hz : v.cells.toList = zs)
    (h : ∀ g, Jl P N B D (k + 1) ops Q rest ((d, .pointer (some ⟨g, 0, none⟩)) :: L) (Item.box g T zs :: its) ps) (hD : D.takes k = false := by rfl) : Jl P N B D k ops Q (o :: rest) L its ps :=
  Jl.e (fun g : Nat => .pointer (some ⟨g, 0, none⟩)) (fun g => Item.box g T zs :: its) (fun _ => ps) hw hd hN (fun a w hf hW => by
    refine ⟨w.heap.size, w.alloc (.cells v.cells T), ?_, fun _ => below_alloc (Below.refl _ _) _, ?_⟩
    · unfold execOp; rw [hop]; simp [Instr.box, newVar, newRow, hf.ev hx]
    · have := hW.alloc T v.cells
      rwa [hz] at this) h hD
theorem store_run {o : Oper} {a : Act} {w : World} (hop : o.op = .store T x y) (hx : a.eval x = .pointer (some ⟨g, off, none⟩)) (hy : a.eval y = v) (hu : v.cells.toList = us) (hT : (P.info? T).map (·.size) = some us.length) (hg : w.heap[g]? = some (.cells cs.toArray T' (0, 0))) (hl : off + us.length ≤ cs.length) (h1 : ∀ u ∈ us, u.oneCell' = true) :
    ∃ w', (execOp a.eval o).run P w = .ok .skip w' ∧ w'.heap[g]? = some (.cells (wr cs off us).toArray T' (0, 0)) ∧ Aft (fun k => k = g) w w' := by
  obtain ⟨w', e1, e2, e3, e4, e5, e6, e7⟩ := storeCells_run (P := P) us 0 ⟨g, off, none⟩ cs w rfl rfl hg (by simpa using hl) h1
  refine ⟨w', ?_, e2, e3, e4, e5, by omega, fun k _ hk => e7 k hk⟩
  unfold execOp; rw [hop]
  obtain ⟨i, hi, hi2⟩ := Option.map_eq_some_iff.1 hT
  have hsz : v.cells.size = us.length := by rw [← hu]; simp
  simp only [hx, hy]
  simp [Instr.storeAt, Instr.sureAddr, storeVar, sizeOf, typeInfo, hi, hi2, hsz, hu, e1]
/-- A whole record is stored into its block. -/
theorem Jl.storeA (hw : wants ops L o = some true) (hop : o.op = .store T x y) (hd : o.dst = none) (hx : ev L x = some (.pointer (some ⟨g, 0, none⟩))) (hy : ev L y = some (.agg us.toArray)) (hT : SzT P T us.length) (hn : SetAt (.box g T' cs) (.box g T' us) its its') (hl : Nat.beq us.length cs.length = true) (h1 : allOne us = true)
    (h : Jl P N B D (k + 1) ops Q rest L its' ps) (hD : D.takes k = false := by rfl) (hE : D.needs k = false := by rfl) : Jl P N B D k ops Q (o :: rest) L its ps :=
  Jl.un its' hw hd (fun a w hf hW => by
    obtain ⟨n, hn0, rfl⟩ := hn.at
    have hg := Box_at hW (List.mem_of_getElem? hn0)
    obtain ⟨w', e1, e2, e3⟩ := store_run (P := P) (us := us) hop (hf.ev hx) (hf.ev hy) (by simp [Value.cells]) hT.out hg (by have := Nat.eq_of_beq_eq_true hl; omega) (allOne_mem h1)
    have e : wr cs 0 us = us := by unfold wr; simp [Nat.eq_of_beq_eq_true hl]
    rw [e] at e2
    exact ⟨w', e1, hW.upd hn0 (fun A hA hA0 => ⟨A, ⟨e2, hA.2⟩, fun k hk _ => hk, e3.os, e3.tape, e3.output, e3.size, fun k hk hn' => e3.block k hk (fun e => hn' ((hA.2 k).2 e))⟩)⟩) h hD hE
/-- A call by its contract. -/
theorem Jl.call {ι : Type} (I : ι → Prop) (val : ι → Value) (its' : ι → List Item) (ps' : ι → List (World → Prop)) {f : FuncId} {args : Array Operand} {ts : Array TypeId} {fi ca : Array Value} {vals : List Value} (hw : wants ops L o = some true) (hop : o.op = .call { callee := .value x, args := args, argTypes := ts }) (hd : o.dst = some d) (hN : Nat.blt d N = true)
    (hx : ev L x = some (.func (.func f) fi ca)) (he : Ent P f) (hargs : evs L args.toList = some vals)
    (hc : ∀ w, WS B w its ps → Calls P f (fi ++ vals.toArray ++ ca) w fun e w' => ∃ i, e = .returned (val i) ∧ I i ∧ WS B w' (its' i) (ps' i) ∧ (D.needs k = true → Below w.heap.size w w'))
    (h : ∀ i, I i → Jl P N B D (k + 1) ops Q rest ((d, val i) :: L) (its' i) (ps' i)) (hD : D.takes k = false := by rfl) : Jl P N B D k ops Q (o :: rest) L its ps := by
  refine ⟨?_⟩
  intro a w hf hW
  unfold runG
  rw [if_neg (by rw [hD]; simp), if_pos (hf.wants hw)]
  have hl := hf.evs hargs
  have ha : args.map a.eval = vals.toArray := by
    apply Array.toList_inj.1
    rw [Array.toList_map]; exact hl
  have hrun : (execOp a.eval o).run P w = .ok (.enter f (fi ++ vals.toArray ++ ca)) w := by
    unfold execOp; rw [hop]
    simp [resolve, hf.ev hx, Deferred.ofValue, invoke, ha, he.out]
  unfold Oper.wp
  rw [hrun, Oper.upon_enter]
  refine (hc w hW).mono ?_
  rintro e w' ⟨i, rfl, hi, hW', hb⟩
  refine ⟨hb, ?_⟩
  rw [hd]
  exact h i hi _ _ (hf.put hN _) hW'
/-- A call of a function by its name, that only makes; one answer. -/
theorem Jl.call1 {f : FuncId} {args : Array Operand} {ts : Array TypeId} {vals : List Value} (hw : wants ops L o = some true) (hop : o.op = .call { callee := .value (.func f), args := args, argTypes := ts }) (hd : o.dst = some d) (hN : Nat.blt d N = true)
    (he : Ent P f) (hargs : evs L args.toList = some vals)
    (hc : ∀ w, WS B w its ps → Calls P f vals.toArray w fun e w' => e = .returned v ∧ Below w.heap.size w w')
    (h : Jl P N B D (k + 1) ops Q rest ((d, v) :: L) its ps) (hD : D.takes k = false := by rfl) : Jl P N B D k ops Q (o :: rest) L its ps :=
  Jl.call (ι := Unit) (fun _ => True) (fun _ => v) (fun _ => its) (fun _ => ps) hw hop hd hN rfl he hargs (fun w hW => by
    simp only [Array.empty_append, Array.append_empty]
    exact (hc w hW).mono (fun e w' hh => ⟨(), hh.1, trivial, hW.call hh.2, fun _ => hh.2⟩)) (fun _ _ => h) hD
end
end Go.Proofs.YtcgpibbbkdhpeaaW.SL

namespace Go.Proofs.YtcgpibbbkdhpeaaW.SL
open Go Go.RowKit Go.Proofs.YtcgpibbbkdhpeaaW.PrintWords
set_option linter.unusedSimpArgs false
set_option linter.unusedVariables false

section
variable {α : Type} {dk : Kd α} {e b : Nat} {B : Base} {w w' : World} {its its' : List Item} {ps ps' : List (World → Prop)} {xs : List α} {v : Value} {ok : Nat → Prop}
/-- A row that a call has made. -/
theorem WS.rowR (h : WS B w its ps) (hb : Below w.heap.size w w') (hr : dk.R e w' w.heap.size ok v xs) (hB : b ≤ w.heap.size) : WS B w' (.row dk e b v xs :: its) ps :=
  h.new hb (A := fun k => w.heap.size ≤ k ∧ k < w'.heap.size) ⟨Kd.R_lower (Kd.R_mono (Kd.R_bound hr) (fun k hk => ⟨hk.2.1, hk.2.2.1⟩)) hB, fun k hk => hk.2⟩ (fun k hk => hk.1)
end

section
variable {P : Program} {N : Nat} {B : Base} {L L' : Sl} {its its' : List Item} {ps ps' : List (World → Prop)} {Q : Exit → Act → World → Prop} {D : Dm} {k : Nat} {ops : Array Oper} {rest : List Oper} {o : Oper} {d T n m : Nat} {v v2 : Value} {x y z : Operand} {α β : Type} {dk : Kd α} {dl : Kd β} {e b : Nat}
/-- A call that hands back one row of its own (V: the whole answer around it). -/
theorem Jl.callR (b : Nat) (V : Value → Value) {xs : List α} {f : FuncId} {args : Array Operand} {ts : Array TypeId} {vals : List Value} (hw : wants ops L o = some true) (hop : o.op = .call { callee := .value (.func f), args := args, argTypes := ts }) (hd : o.dst = some d) (hN : Nat.blt d N = true)
    (he : Ent P f) (hargs : evs L args.toList = some vals)
    (hc : ∀ w, WS B w its ps → Calls P f vals.toArray w fun e' w' => ∃ v, e' = .returned (V v) ∧ dk.R e w' w.heap.size (fun _ => True) v xs ∧ Below w.heap.size w w')
    (h : ∀ A c, xs.length ≤ c → Jl P N B D (k + 1) ops Q rest ((d, V (.slice A xs.length c)) :: L) (.row dk e 0 (.slice A xs.length c) xs :: its) ps) (hD : D.takes k = false := by rfl) : Jl P N B D k ops Q (o :: rest) L its ps :=
  Jl.call (ι := Option Addr × Nat) (fun i => xs.length ≤ i.2) (fun i => V (.slice i.1 xs.length i.2)) (fun i => .row dk e 0 (.slice i.1 xs.length i.2) xs :: its) (fun _ => ps) hw hop hd hN rfl he hargs (fun w hW => by
    simp only [Array.empty_append, Array.append_empty]
    refine (hc w hW).mono ?_
    rintro e' w' ⟨v, rfl, hr, hb⟩
    obtain ⟨A, c, rfl, hl, _⟩ := Kd.R_reads hr
    exact ⟨(A, c), rfl, hl, hW.rowR hb hr (Nat.zero_le _), fun _ => hb⟩) (fun i hi => h i.1 i.2 hi) hD
end
section
variable {α β : Type} {dk : Kd α} {di : Kd β} {e ei b g m cap : Nat} {B : Base} {w w' : World} {its its' : List Item} {ps ps' : List (World → Prop)} {xs : List α} {ys ys' : List β} {v u : Value} {i : Int} {c : List Value} {x' : α}
/-- The element back in its row: it is x' now. -/
theorem WS.back {n : Nat} (h : WS B w (.row di ei b u ys' :: its) ps) (hn : its[n]? = some (.lent dk e b v xs i c u)) (hE : di.E = [])
    (hM : ∀ (w : World) ok, di.R ei w b ok u ys' → dk.M w b ok x' c) : WS B w (its.set n (.rowS dk e b v (xs.set i.toNat x'))) ps := by
  obtain ⟨q1, S, q2, q3, q4⟩ := h
  refine ⟨q1, S, q2.one hn (fun A1 A2 h1 h2 h3 => ?_), q3, q4⟩
  obtain ⟨ok, oki, g1, g2, g3, g4⟩ := h1
  obtain ⟨r1, r2⟩ := h2
  obtain ⟨_, f, hR⟩ := g1
  have hH : Kd.H dk e w b (fun k => (ok k ∧ ¬ oki k) ∨ some k = u.ownBlock) v xs i (fun k => some k = u.ownBlock) c :=
    ⟨fun k hk => .inr hk, f, Kd.R_mono hR (fun k hk => ⟨.inl hk, fun he => hk.2 (g2 k he.symm)⟩)⟩
  have hS := Kd.S_bound (Kd.H_back hH (hM w _ (Kd.R_tight hE r1)) (fun k hk => hk))
  refine ⟨Kd.S_mono hS (fun k hk => ?_), fun k hk => ?_⟩
  · rcases hk.1 with h | h
    · exact .inl ((g3 k).2 ⟨h, hk.2.2.1⟩)
    · exact .inr (r1.1 k h.symm)
  · rcases hk with h | h
    · exact ((g3 k).1 h).2
    · exact r2 k h
end
section
variable {P : Program} {N : Nat} {B : Base} {L L' : Sl} {its its' : List Item} {ps ps' : List (World → Prop)} {Q : Exit → Act → World → Prop} {D : Dm} {k : Nat} {ops : Array Oper} {rest : List Oper} {o : Oper} {d T n m off j g cap : Nat} {v v2 u rv : Value} {x y z : Operand} {α β : Type} {dk : Kd α} {e b : Nat} {xs : List α} {i : Int} {c c' : List Value}
namespace Y
end Y
end
end Go.Proofs.YtcgpibbbkdhpeaaW.SL

namespace Go.Proofs.YtcgpibbbkdhpeaaW.SL
open Go Go.RowKit Go.Proofs.YtcgpibbbkdhpeaaW.PrintWords Go.Proofs.YtcgpibbbkdhpeaaW.PrintLast
set_option linter.unusedSimpArgs false
set_option linter.unusedVariables false

universe u
section
variable {P : Program} {ops : Array Oper} {Q : Exit → Act → World → Prop} {md : Region.Mode} {ds : List Nat}
/-- Whatever order is picked from here on, and nothing that was there is written, but by ds. -/
def wpAnyB (P : Program) (md : Region.Mode) (ops : Array Oper) (Q : Exit → Act → World → Prop) (ds : List Nat) : Nat → Array Bool → Act → World → Prop
  | 0, listed, a, w => Region.ready md ops listed = [] ∧ Q .normal a w
  | fuel + 1, listed, a, w =>
    (Region.ready md ops listed = [] → Q .normal a w) ∧
    ∀ i ∈ Region.ready md ops listed, wpOp P ops Q i (fun a' w' => (i ∉ ds → Below w.heap.size w w') ∧ wpAnyB P md ops Q ds fuel (listed.setIfInBounds i true) a' w') a w
theorem wpAny_of_B : ∀ (fuel : Nat) (listed : Array Bool) (a : Act) (w : World), wpAnyB P md ops Q ds fuel listed a w → wpAny P md ops Q fuel listed a w
  | 0, _, _, _, h => h
  | fuel + 1, _, _, _, h => ⟨h.1, fun i hi => wpOp_mono (fun a' w' h' => wpAny_of_B fuel _ a' w' h'.2) (h.2 i hi)⟩
theorem yieldsIf_mono {S S' : World → Prop} {o : Oper} {v : Value} {a : Act} (h : YieldsIf P ops S o v a) (hs : ∀ w, S' w → S w) : YieldsIf P ops S' o v a :=
  h.imp (fun ⟨h1, h2⟩ => ⟨h1, fun w hw => h2 w (hs w hw)⟩) id
theorem wpAnyB_first {i : Nat} {oi : Oper} {v : Value} (hi : ops[i]? = some oi) (hsel : ∀ (j : Nat) (o : Oper) cs b, ops[j]? = some o → o.op ≠ .select cs b)
    (hQ : ∀ c a w, Q (.panic c) (a.put oi.dst v) w → Q (.panic c) a w) (n : Nat) :
    ∀ (fuel : Nat) (listed : Array Bool) (a : Act) (w : World),
      (∀ j oj, ops[j]? = some oj → j ≠ i → listed.getD j true = false → (∀ e ∈ oj.after, Region.binds md e = true → e.on ≠ i) → oi.apart ops oj = true) →
      ListedClosed md ops listed → (∀ d ∈ ds, listed.getD d true = false → Region.reachB md ops i n d = true) →
      i ∈ Region.ready md ops listed → YieldsIf P ops (fun W => Below w.heap.size w W) oi v a →
      wpAnyB P md ops Q ds fuel (listed.setIfInBounds i true) (a.put oi.dst v) w → wpAnyB P md ops Q ds (fuel + 1) listed a w := by
  intro fuel
  induction fuel with
  | zero =>
    intro listed a w _ _ _ hr hy H
    refine ⟨fun h => (by rw [h] at hr; cases hr), fun j hj => ?_⟩
    by_cases hji : j = i
    · subst hji; exact hy.wpOp hi (Below.refl _ _) ⟨fun _ => Below.refl _ _, H⟩
    · have := ready_mono hj hji
      rw [H.1] at this
      cases this
  | succ fuel ih =>
    intro listed a w hfree hc hd hr hy H
    refine ⟨fun h => (by rw [h] at hr; cases hr), fun j hj => ?_⟩
    by_cases hji : j = i
    · subst hji; exact hy.wpOp hi (Below.refl _ _) ⟨fun _ => Below.refl _ _, H⟩
    · have h1 := H.2 j (ready_mono hj hji)
      obtain ⟨hjun, oj, hoj, hall⟩ := mem_ready.1 hj
      have hiun := (mem_ready.1 hr).1
      have hnot : ∀ e ∈ oj.after, Region.binds md e = true → e.on ≠ i := fun e he hb heq => by
        have h1 := hall e he hb
        rw [heq] at h1
        rcases Nat.lt_or_ge i listed.size with h' | h'
        · simp [h'] at hiun h1; rw [hiun] at h1; cases h1
        · simp [Array.getElem?_eq_none h'] at h1
      have hjd : j ∉ ds := fun hm => Region.reach_not_ready hc (hd j hm hjun) hiun hj
      have h2 := wpOp_putIf hoj (hfree j oj hoj hji hjun hnot) (fun cs b => hsel i oi cs b hi) (fun cs b => hsel j oj cs b hoj) hQ hy h1
      have hfree' : ∀ k ok, ops[k]? = some ok → k ≠ i → (listed.setIfInBounds j true).getD k true = false →
          (∀ e ∈ ok.after, Region.binds md e = true → e.on ≠ i) → oi.apart ops ok = true := fun k ok hk hki hun hno => by
        refine hfree k ok hk hki ?_ hno
        by_cases hjk : j = k
        · subst hjk; exact hjun
        · rw [getD_set_ne true hjk] at hun; exact hun
      have hd' : ∀ d ∈ ds, (listed.setIfInBounds j true).getD d true = false → Region.reachB md ops i n d = true := fun d hm hun => by
        refine hd d hm ?_
        by_cases hjk : j = d
        · subst hjk; exact hjun
        · rw [getD_set_ne true hjk] at hun; exact hun
      refine wpOp_mono (fun a' w' h3 => ⟨h3.2.1, ih (listed.setIfInBounds j true) a' w' hfree' (hc.set hj) hd' (ready_mono hr (Ne.symm hji)) (yieldsIf_mono h3.1 (fun W hW => (h3.2.1 hjd).trans (hW.mono (h3.2.1 hjd).size))) ?_⟩) h2
      rw [Array.setIfInBounds_comm _ _ hji]
      exact h3.2.2
/-- May the operations be walked in the order ord? -/
def ordOk (T : Bool × List (List Nat × List Nat)) (ds : List Nat) (D : Dm) : Nat → List Nat → List Bool → Bool
  | _, [], l => readyT T.2 l == []
  | k, i :: r, l => (if D.takes k = true then takeT T ds l (l.set i true) i else (readyT T.2 l == [i]) && (D.needs k || ds.contains i)) && ordOk T ds D (k + 1) r (l.set i true)
theorem wpAnyB_of_run {D : Dm} (hQ : ∀ c a d v w, Q (.panic c) (Act.put a d v) w → Q (.panic c) a w) : ∀ (ord : List Nat) (k : Nat) (l : Array Bool) (a : Act) (w : World), ordOk (rtab md ops) ds D k ord l.toList = true → runG P ops Q D k (ord.filterMap (fun i => ops[i]?)) a w → wpAnyB P md ops Q ds ord.length l a w
  | [], k, l, a, w, h, hr => by
    simp only [ordOk, beq_iff_eq] at h
    rw [← ready_eq] at h
    exact ⟨h, hr⟩
  | i :: r, k, l, a, w, h, hr => by
    simp only [ordOk, Bool.and_eq_true] at h
    obtain ⟨h1, h2⟩ := h
    have hset : l.toList.set i true = (l.setIfInBounds i true).toList := by rw [Array.toList_setIfInBounds]
    by_cases ht : D.takes k = true
    · rw [if_pos ht] at h1
      have h3 := take_of (l := l) (l' := l.setIfInBounds i true) rfl (by rw [← hset]; exact h1)
      simp only [takeB, Bool.and_eq_true, beq_iff_eq] at h3
      obtain ⟨⟨⟨⟨⟨g1, g2⟩, g3⟩, g4⟩, g5⟩, _⟩ := h3
      have g3' : i ∈ Region.ready md ops l := by simpa using g3
      obtain ⟨_, o, ho, _⟩ := mem_ready.1 g3'
      rw [List.filterMap_cons, ho] at hr
      dsimp only at hr
      unfold runG at hr
      rw [if_pos ht] at hr
      obtain ⟨v, hy, hr⟩ := hr
      exact wpAnyB_first ho (Region.noSelect_spec g1) (fun c a w => hQ c a _ _ w) ops.size _ l a w (Region.free_spec ho g2) (Region.closedB_spec g4)
        (fun d hm hun => by have := List.all_eq_true.1 g5 d hm; rw [hun] at this; simpa using this) g3' hy (wpAnyB_of_run hQ r (k + 1) _ _ w (by rw [← hset]; exact h2) hr)
    · rw [if_neg ht] at h1
      simp only [Bool.and_eq_true, beq_iff_eq, Bool.or_eq_true] at h1
      obtain ⟨h3, h4⟩ := h1
      rw [← ready_eq] at h3
      have g3' : i ∈ Region.ready md ops l := by rw [h3]; simp
      obtain ⟨_, o, ho, _⟩ := mem_ready.1 g3'
      rw [List.filterMap_cons, ho] at hr
      dsimp only at hr
      unfold runG at hr
      rw [if_neg ht] at hr
      refine ⟨fun h0 => (by rw [h0] at g3'; cases g3'), fun j hj => ?_⟩
      rw [h3] at hj
      obtain rfl : j = i := by simpa using hj
      unfold wpOp
      rw [ho]
      dsimp only
      have hds : j ∉ ds → D.needs k = true := fun hn => h4.resolve_right (fun h => hn (by simpa using h))
      by_cases hw : Region.wanted o (yielded ops a.tmps) = true
      · rw [if_pos hw] at hr ⊢
        exact .inl (Oper.wp_mono (fun a' w' h' => ⟨fun hn => h'.1 (hds hn), wpAnyB_of_run hQ r (k + 1) _ _ w' (by rw [← hset]; exact h2) h'.2⟩) hr)
      · rw [if_neg hw] at hr ⊢
        exact ⟨fun _ => Below.refl _ _, wpAnyB_of_run hQ r (k + 1) _ _ w (by rw [← hset]; exact h2) hr⟩
theorem memH {α : Type u} {x : α} {l : List α} : x ∈ x :: l := .head _
theorem memT {α : Type u} {x y : α} {l : List α} (h : x ∈ l) : x ∈ y :: l := .tail _ h
def elemN (n : Nat) : List Nat → Bool
  | [] => false
  | m :: r => Nat.beq m n || elemN n r
/-- tk: the places taken first; nd: the places that write. -/
def mkD (tk nd : List Nat) : Dm := ⟨fun k => elemN k tk, fun k => !elemN k nd⟩
def drawOk (ops : Array Oper) (ds : List Nat) (D : Dm) (ord : List Nat) : Bool := ordOk (rtab .any ops) ds D 0 ord (List.replicate ops.size false) && Nat.beq ord.length ops.size
end
section
variable {P : Program} {N : Nat} {B : Base} {L L' : Sl} {its its' : List Item} {ps ps' : List (World → Prop)} {Q : Exit → Act → World → Prop} {ops : Array Oper} {c : Code}
theorem Cj.regionD {id : Nat} (hc : c = .region id ops true) (D : Dm) (ds : List Nat) (ord : List Nat) (hm : P.follows .mixedOrders = true) (hok : drawOk ops ds D ord = true)
    (h : Jl P N B D 0 ops Q (ord.filterMap (fun i => ops[i]?)) L its ps) (hQ : ∀ c a d v w, Q (.panic c) (Act.put a d v) w → Q (.panic c) a w := by intro c a d v w h; cases d <;> exact h) : Cj P N B c Q L its ps := by
  subst hc
  refine ⟨?_⟩
  intro a w hf hw
  refine wp_region_any hm ?_
  have hb : Below w.heap.size w { w with drawn := w.drawn + 1 } := ⟨rfl, rfl, rfl, Nat.le_refl _, fun _ _ => rfl⟩
  simp only [drawOk, Bool.and_eq_true] at hok
  have := wpAnyB_of_run (md := .any) hQ ord 0 (Array.replicate ops.size false) a { w with drawn := w.drawn + 1 } (by simpa using hok.1) (h a _ hf (hw.call hb))
  rw [Nat.eq_of_beq_eq_true hok.2] at this
  exact wpAny_of_B _ _ _ _ this
end
end Go.Proofs.YtcgpibbbkdhpeaaW.SL

namespace Go.Proofs.YtcgpibbbkdhpeaaW.SL
open Go Go.RowKit Go.Proofs.YtcgpibbbkdhpeaaW.PrintWords
set_option linter.unusedSimpArgs false
set_option linter.unusedVariables false
section
variable {P : Program} {N : Nat} {B : Base} {L : Sl} {its : List Item} {ps : List (World → Prop)} {Q : Exit → Act → World → Prop} {D : Dm} {k : Nat} {ops : Array Oper} {rest : List Oper} {o : Oper} {c : Code}
theorem gateO (h : Jl P N B D k ops Q (o :: rest) L its ps) : Jl P N B D k ops Q (o :: rest) L its ps := h
theorem gateE (h : Jl P N B D k ops Q [] L its ps) : Jl P N B D k ops Q [] L its ps := h
theorem gateC (h : Cj P N B c Q L its ps) : Cj P N B c Q L its ps := h
end
end Go.Proofs.YtcgpibbbkdhpeaaW.SL

namespace Go.Proofs.YtcgpibbbkdhpeaaW.SL
open Go Go.RowKit Go.Proofs.YtcgpibbbkdhpeaaW.PrintWords
set_option linter.unusedSimpArgs false
set_option linter.unusedVariables false

/-- Element i's cells. -/
def rowOf (sz : Nat) (cs : List Value) (i : Nat) : List Value := (cs.drop (i * sz)).take sz
theorem rowOf_get {sz : Nat} {cs : List Value} {i k : Nat} (hk : k < sz) : (rowOf sz cs i)[k]? = cs[i * sz + k]? := by simp [rowOf, List.getElem?_take, hk]
theorem mul_lt_step {i j sz : Nat} (h : i < j) : i * sz + sz ≤ j * sz := by
  have := Nat.mul_le_mul_right sz (show i + 1 ≤ j from h)
  rwa [Nat.add_mul, Nat.one_mul] at this
theorem box_raw {sz e b g cap m : Nat} {w : World} {ok : Nat → Prop} {cs : List Value} {rows : List (List Value)} (hh : w.heap[g]? = some (.cells cs.toArray e (0, 0))) (hl : cs.length = cap * sz) (hb : b ≤ g) (hm : rows.length = m) (hc : m ≤ cap) (hx : cap ≤ maxLen) (hok : ok g)
    (hr : ∀ j us, rows[j]? = some us → rowOf sz cs j = us ∧ us.length = sz ∧ ∀ u ∈ us, u.oneCell' = true) : (Kd.raw sz).R e w b ok (.slice (some ⟨g, 0, none⟩) m cap) rows := by
  subst hm
  have hmul := Nat.mul_le_mul_right sz hc
  refine ⟨fun k hk => ?_, cs.take (rows.length * sz), ⟨by rw [List.length_take]; show min (rows.length * sz) cs.length = rows.length * sz; omega, .inr ⟨g, cap, cs.toArray, rfl, hb, hh, hc, hx, by show cs.toArray.size = cap * sz; simpa using hl, by rfl⟩⟩, by rw [List.length_take]; show min (rows.length * sz) cs.length = rows.length * sz; omega, fun j us hj => ?_⟩
  · have : g = k := by simpa [Value.ownBlock] using hk
    rw [← this]; exact hok
  · obtain ⟨k1, k2, k3⟩ := hr j us hj
    have hjl : j < rows.length := (List.getElem?_eq_some_iff.1 hj).1
    have e1 : ((cs.take (rows.length * sz)).drop (j * sz)).take sz = us := by
      rw [← k1]
      apply List.ext_getElem?
      intro k
      by_cases hk : k < sz
      · have := mul_lt_step (sz := sz) hjl
        rw [rowOf_get hk, List.getElem?_take, if_pos hk, List.getElem?_drop, List.getElem?_take, if_pos (by omega)]
      · simp [rowOf, List.getElem?_take, hk]
    show ((cs.take (rows.length * sz)).drop (j * sz)).take sz = us ∧ (((cs.take (rows.length * sz)).drop (j * sz)).take sz).length = sz ∧ ∀ u ∈ ((cs.take (rows.length * sz)).drop (j * sz)).take sz, u.oneCell' = true
    rw [e1]
    exact ⟨rfl, k2, k3⟩
section
variable {P : Program} {N : Nat} {B : Base} {L L' : Sl} {its its' : List Item} {ps ps' : List (World → Prop)} {Q : Exit → Act → World → Prop} {D : Dm} {k : Nat} {ops : Array Oper} {rest : List Oper} {o : Oper} {d T T' n m off g cap len : Nat} {v v2 v0 : Value} {x y z : Operand} {cs us vs : List Value} {α : Type} {dk : Kd α} {e b : Nat}
namespace Y
end Y
/-- A call of a closure that only makes. -/
theorem Jl.callc {f : FuncId} {fi ca : Array Value} {args : Array Operand} {ts : Array TypeId} {vals : List Value} (hw : wants ops L o = some true) (hop : o.op = .call { callee := .value x, args := args, argTypes := ts }) (hd : o.dst = some d) (hN : Nat.blt d N = true)
    (hx : ev L x = some (.func (.func f) fi ca)) (he : Ent P f) (hargs : evs L args.toList = some vals)
    (hc : ∀ w, WS B w its ps → Calls P f (fi ++ vals.toArray ++ ca) w fun e w' => e = .returned v ∧ Below w.heap.size w w')
    (h : Jl P N B D (k + 1) ops Q rest ((d, v) :: L) its ps) (hD : D.takes k = false := by rfl) : Jl P N B D k ops Q (o :: rest) L its ps :=
  Jl.call (ι := Unit) (fun _ => True) (fun _ => v) (fun _ => its) (fun _ => ps) hw hop hd hN hx he hargs (fun w hW => by
    exact (hc w hW).mono (fun e w' hh => ⟨(), hh.1, trivial, hW.call hh.2, fun _ => hh.2⟩)) (fun _ _ => h) hD
/-- Beside item n, whatever is written in it. -/
theorem WS.beside {w : World} (h : WS B w its ps) {n : Nat} {i : Item} (hn : its[n]? = some i) : ∃ A, i.p w A ∧ (∀ W, Aft A w W → WS B W (its.eraseIdx n) ps) ∧
    ∀ (w' : World) (i' : Item) (A' : Nat → Prop), i'.p w' A' → (∀ k, A' k → k < w.heap.size → A k) → Aft A w w' → WS B w' (i' :: its.eraseIdx n) ps := by
  obtain ⟨h1, S, h2, h3, h4⟩ := h
  obtain ⟨A, C, g0, g1, g2, g3⟩ := h2.out hn
  have hAS : ∀ k, A k → S k := fun k hk => (g2 k).2 (.inl hk)
  have wk : ∀ W, Aft A w W → Aft S w W := fun W ha => ⟨ha.os, ha.tape, ha.output, ha.size, fun k hk hn => ha.block k hk (fun h' => hn (hAS k h'))⟩
  have wB : ∀ W, Aft A w W → Aft B.S B.w W := fun W ha => h1.trans ha (fun k hk hlt => (h3 k (hAS k hk)).resolve_right (by omega))
  have gl : ∀ W, Aft A w W → Own (its.eraseIdx n) W C := fun W ha => g1.loc ha.size (fun k hk => ha.block k (g1.lt k hk) (fun h' => g3 k h' hk))
  refine ⟨A, g0, fun W ha => ⟨wB W ha, C, gl W ha, fun k hk => h3 k ((g2 k).2 (.inr hk)), fun p hp => (h4 p hp).step (wk W ha) (fun k hk _ => (g2 k).2 (.inr hk))⟩, fun w' i' A' hi' hsub ha => ?_⟩
  refine ⟨wB w' ha, fun k => A' k ∨ C k, ⟨A', C, hi', gl w' ha, fun k => Iff.rfl, fun k hk hc => ?_⟩, ?_, fun p hp => (h4 p hp).step (wk w' ha) ?_⟩
  · exact g3 k (hsub k hk (g1.lt k hc)) hc
  · rintro k (hk | hk)
    · by_cases hlt : k < w.heap.size
      · exact h3 k (hAS k (hsub k hk hlt))
      · exact .inr (Nat.le_trans h1.size (by omega))
    · exact h3 k ((g2 k).2 (.inr hk))
  · rintro k (hk | hk) hlt
    · exact hAS k (hsub k hk hlt)
    · exact (g2 k).2 (.inr hk)
end
end Go.Proofs.YtcgpibbbkdhpeaaW.SL

namespace Go.Proofs.YtcgpibbbkdhpeaaW.SL
open Go Go.RowKit Go.Proofs.YtcgpibbbkdhpeaaW.PrintWords
set_option linter.unusedSimpArgs false
set_option linter.unusedVariables false
/-- What append asks of an element type: its zero value, size and bytes. -/
structure ApT (P : Program) (T e size bytes : Nat) : Prop where
  und : P.underlying T = some (.slice e)
  inf : ∃ i z, P.info? e = some i ∧ i.zero = some z ∧ i.size = size ∧ i.bytes = bytes ∧ z.cells.size = size
  pos : 0 < size
theorem apT_of {P : Program} {T e size bytes : Nat} {z : Value} (hu : P.underlying T = some (.slice e)) (hi : (P.info? e).map (fun i => (i.zero, i.size, i.bytes)) = some (some z, size, bytes)) (hz : z.cells.size = size) (h0 : 0 < size) : ApT P T e size bytes := by
  obtain ⟨i, h1, h2⟩ := Option.map_eq_some_iff.1 hi
  simp only [Prod.mk.injEq] at h2
  exact ⟨hu, ⟨i, z, h1, h2.1, h2.2.1, h2.2.2, hz⟩, h0⟩
theorem map_range0 (f : Nat → Value) : Array.map f (Array.range 0) = #[] := by apply Array.toList_inj.1; rw [Array.toList_map, Array.toList_range]; rfl
theorem map_range1 (f : Nat → Value) : Array.map f (Array.range 1) = #[f 0] := by apply Array.toList_inj.1; rw [Array.toList_map, Array.toList_range]; rfl
section
variable {P : Program} {N : Nat} {B : Base} {L L' : Sl} {its its' : List Item} {ps ps' : List (World → Prop)} {Q : Exit → Act → World → Prop} {D : Dm} {k : Nat} {ops : Array Oper} {rest : List Oper} {o : Oper} {d T n m gx e bytes : Nat} {v v2 : Value} {x y z : Operand} {cs us : List Value} {α : Type} {dk : Kd α} {xs : List α}
/-- x = append(x, one element). -/
theorem Jl.app (p : α) (okp : Nat → Prop) (hw : wants ops L o = some true) (hop : o.op = .call { callee := .builtin .append, args := #[x, y], argTypes := #[T, T] }) (hd : o.dst = some d) (hN : Nat.blt d N = true) (hx : ev L x = some v) (hy : ev L y = some (.slice (some ⟨gx, 0, none⟩) 1 1))
    (hT : ApT P T e dk.sz bytes) (hb : Item.box gx e us ∈ its) (hul : us.length = dk.sz) (hM : ∀ w : World, dk.M w 0 (fun _ => False) p us) (hone : ∀ u ∈ us, u.oneCell' = true)
    (hn : OutAt (.row dk e 0 v xs) its its') (hl : (xs.length + 1) * bytes ≤ 140737488355328) (hl2 : xs.length + 1 ≤ 9223372036854775807)
    (h : ∀ A c, xs.length + 1 ≤ c → Jl P N B D (k + 1) ops Q rest ((d, .slice A (xs ++ [p]).length c) :: L) (.row dk e 0 (.slice A (xs ++ [p]).length c) (xs ++ [p]) :: its') ps) (hD : D.takes k = false := by rfl) (hEE : D.needs k = false := by rfl) : Jl P N B D k ops Q (o :: rest) L its ps := by
  obtain ⟨n, hn0, rfl⟩ := hn.at
  refine ⟨?_⟩
  intro a w hf hW
  have hbx := Box_at hW hb
  obtain ⟨i, zz, i1, i2, i3, i4, i5⟩ := hT.inf
  obtain ⟨A, g1, g2, g3⟩ := hW.beside hn0
  obtain ⟨r1, r2⟩ := g1
  obtain ⟨q0, inner, hown, hr⟩ := Kd.R_mono r1 (ok' := fun k => A k ∨ w.heap.size ≤ k) (fun k hk => .inl hk)
  obtain ⟨v', w', e1, e2, e3, _, e4⟩ := run_append_own_at (P := P) (w := w) 0 T o.type e i zz dk.sz bytes hT.und i1 i2 i3 i4 i5 hT.pos v xs.length inner hown ⟨gx, 0, none⟩ 1 1 us (by rw [hul, Nat.one_mul]) (fun j u hu => by
    have := Box_cells hbx 0 j u (by simpa using hu)
    simpa using this) hone (by simp only [maxLen]; omega) hl (Nat.zero_le _)
  have hR := Kd.R_appended q0 hr (hM w) (fun k hk => hk.elim) (fun k hk => .inr hk) e2 e3 (e4.imp id (fun h => ⟨_, h, Nat.le_refl _⟩))
  obtain ⟨A', c', rfl, hc', _⟩ := Kd.R_reads hR
  rw [List.length_append, List.length_singleton] at hc'
  have hAown : ∀ k, v.ownBlock = some k → A k := r1.1
  have haft : Aft A w w' := ⟨e3.os, e3.tape, e3.output, e3.size, fun k hk hnA => e3.block k hk (fun e => hnA (hAown k e.symm))⟩
  unfold runG
  rw [if_neg (by rw [hD]; simp), if_pos (hf.wants hw)]
  have hrun : (execOp a.eval o).run P w = .ok (.value (.slice A' (xs ++ [p]).length c')) w' := by
    unfold execOp; rw [hop]
    simp only [List.length_append, List.length_singleton] at e1 ⊢
    simp [resolve, invoke, builtin, hf.ev hx, hf.ev hy, e1]
  unfold Oper.wp
  rw [hrun, Oper.upon_value, hd]
  refine ⟨fun h' => (by rw [hEE] at h'; cases h'), ?_⟩
  exact h A' c' hc' _ _ (hf.put hN _) (g3 w' _ (fun k => (A k ∨ w.heap.size ≤ k) ∧ k < w'.heap.size) ⟨Kd.R_mono (Kd.R_bound hR) (fun k hk => ⟨hk.1, hk.2.2.1⟩), fun k hk => hk.2⟩ (fun k hk hlt => hk.1.resolve_right (by omega)) haft)
/-- A literal without elements. -/
theorem Jl.lit0 (dk : Kd α) {sz : Nat} (hw : wants ops L o = some true) (hop : o.op = .buildSlice T 0 #[]) (hd : o.dst = some d) (hN : Nat.blt d N = true) (hT : ElT P T e sz)
    (h : ∀ g, Jl P N B D (k + 1) ops Q rest ((d, .slice (some ⟨g, 0, none⟩) ([] : List α).length 0) :: L) (.row dk e 0 (.slice (some ⟨g, 0, none⟩) ([] : List α).length 0) ([] : List α) :: its) ps) (hD : D.takes k = false := by rfl) : Jl P N B D k ops Q (o :: rest) L its ps :=
  Jl.e (fun g : Nat => .slice (some ⟨g, 0, none⟩) ([] : List α).length 0) (fun g => .row dk e 0 (.slice (some ⟨g, 0, none⟩) ([] : List α).length 0) ([] : List α) :: its) (fun _ => ps) hw hd hN (fun a w hf hW => by
    have hTo := hT.out
    unfold elT at hTo
    cases hu : P.underlying T with
    | none => simp [hu] at hTo
    | some dd =>
      cases dd <;> simp [hu] at hTo
      rename_i e2
      obtain ⟨j, hj, rfl, rfl⟩ := hTo
      have hb : Below w.heap.size w (w.alloc (.cells #[] e2)) := below_alloc (Below.refl _ _) _
      refine ⟨w.heap.size, w.alloc (.cells #[] e2), ?_, fun _ => hb, hW.new hb (A := fun k => k = w.heap.size) ⟨⟨fun k hk => ?_, [], ⟨by simp, .inr ⟨w.heap.size, 0, #[], rfl, Nat.zero_le _, heap_alloc_new w _, Nat.le_refl _, Nat.zero_le _, by simp, by simp⟩⟩, Reps.none _ _⟩, fun k hk => by rw [hk]; simp⟩ (fun k hk => by rw [hk]; exact Nat.le_refl _)⟩
      · unfold execOp; rw [hop]
        simp [Instr.buildSlice, run_underlying hu, sizeOf, typeInfo, hj, Instr.fill, newRow, map_range0]
      · have : w.heap.size = k := by simpa [Value.ownBlock] using hk
        exact this.symm) h hD
/-- A literal of one element of one cell. -/
theorem Jl.lit1 {u z0 : Value} (hw : wants ops L o = some true) (hop : o.op = .buildSlice T 1 #[(0, x)]) (hd : o.dst = some d) (hN : Nat.blt d N = true) (hx : ev L x = some u) (hT : ElT P T e 1) (hz : ZeroT P e [z0]) (hu1 : u.oneCell' = true)
    (h : ∀ g, Jl P N B D (k + 1) ops Q rest ((d, .slice (some ⟨g, 0, none⟩) 1 1) :: L) (.box g e [u] :: its) ps) (hD : D.takes k = false := by rfl) : Jl P N B D k ops Q (o :: rest) L its ps :=
  Jl.e (fun g : Nat => .slice (some ⟨g, 0, none⟩) 1 1) (fun g => .box g e [u] :: its) (fun _ => ps) hw hd hN (fun a w hf hW => by
    have hTo := hT.out
    unfold elT at hTo
    obtain ⟨z, hz1, hz2⟩ := run_zeroT (w := w) hz.out
    have hzc : z.cells = #[z0] := by apply Array.toList_inj.1; rw [hz2]
    have huc : u.cells = #[u] := by cases u <;> first | rfl | cases hu1
    cases hu : P.underlying T with
    | none => simp [hu] at hTo
    | some dd =>
      cases dd <;> simp [hu] at hTo
      rename_i e2
      obtain ⟨j, hj, rfl, hj1⟩ := hTo
      refine ⟨w.heap.size, w.alloc (.cells #[u] e2), ?_, fun _ => below_alloc (Below.refl _ _) _, hW.alloc e2 #[u]⟩
      unfold execOp; rw [hop]
      simp [Instr.buildSlice, run_underlying hu, sizeOf, typeInfo, hj, hj1, hz1, hzc, Instr.fill, newRow, hf.ev hx, huc, map_range1]) h hD
end
end Go.Proofs.YtcgpibbbkdhpeaaW.SL

namespace Go.Proofs.YtcgpibbbkdhpeaaW.SL
open Go Go.RowKit Go.Proofs.YtcgpibbbkdhpeaaW.PrintWords
set_option linter.unusedSimpArgs false
set_option linter.unusedVariables false
/-- The cells of element i. -/
theorem cells_of_C {sz n : Nat} {w : World} {ad : Addr} {rows : List (List Value)} (h : (Kd.raw sz).C w (some ad) n rows) {i : Nat} {us : List Value} (hu : rows[i]? = some us) : us.length = sz ∧ Cells w (ad.add (i * sz)) us := by
  unfold Kd.C ReadsRow at h
  obtain ⟨h1, h2, h3⟩ := h
  have hi := (List.getElem?_eq_some_iff.1 hu).1
  obtain ⟨ad', ha, h4⟩ := h3 (by omega)
  injection ha with ha
  subst ha
  obtain ⟨c, c1, c2, c3⟩ := h4 i us hu
  obtain ⟨rfl, _, _⟩ := c2
  exact ⟨c1, fun j u hj => by rw [add_add]; exact c3 j u hj⟩
section
variable {P : Program} {N : Nat} {B : Base} {L : Sl} {its : List Item} {ps : List (World → Prop)} {o : Oper} {T n m : Nat} {x : Operand} {ad ad' : Addr} {rows : List (List Value)} {us : List Value} {u : Value}
namespace Y
end Y
end
/-! #### items in another order, some left out -/
inductive Pick : List Item → List Item → Prop
  | nil {its} : Pick its []
  | cons {i : Item} {its r q} : OutAt i its r → Pick r q → Pick its (i :: q)
theorem Own.pick : ∀ {its its' : List Item} {w : World} {S : Nat → Prop}, Pick its its' → Own its w S → ∃ S', Own its' w S' ∧ ∀ k, S' k → S k
  | _, _, _, _, .nil, _ => ⟨fun _ => False, fun _ h => h, fun _ h => h.elim⟩
  | _, _, _, _, .cons ho hp, h => by
    obtain ⟨n, hn, rfl⟩ := ho.at
    obtain ⟨A, B, g1, g2, g3, g4⟩ := h.out hn
    obtain ⟨S', h1, h2⟩ := Own.pick hp g2
    exact ⟨fun k => A k ∨ S' k, ⟨A, S', g1, h1, fun _ => Iff.rfl, fun k ha hs => g4 k ha (h2 k hs)⟩, fun k hk => (g3 k).2 (hk.imp id (h2 k))⟩
theorem WS.pick {B : Base} {w : World} {its its' : List Item} {ps : List (World → Prop)} (hp : Pick its its') (h : WS B w its ps) : WS B w its' ps := by
  obtain ⟨h1, S, h2, h3, h4⟩ := h
  obtain ⟨S', g1, g2⟩ := Own.pick hp h2
  exact ⟨h1, S', g1, fun k hk => h3 k (g2 k hk), fun p hp => (h4 p hp).step (Aft.refl S w) (fun k hk _ => g2 k hk)⟩
section
variable {P : Program} {N : Nat} {B : Base} {L L' : Sl} {its its' : List Item} {ps ps' : List (World → Prop)} {Q : Exit → Act → World → Prop} {c c1 c2 : Code}
theorem Ej.cutP {K : Act → World → Prop} {ι : Type} (I : ι → Prop) (Lf : ι → Sl) (If : ι → List Item) (Pf : ι → List (World → Prop)) (hK : ∀ a w, (∃ i, I i ∧ Fr N a (Lf i) ∧ WS B w (If i) (Pf i)) → K a w) (i : ι) (hi : I i) (hL : Sub (Lf i) L) (hI : Pick its (If i)) (hp : ∀ p ∈ Pf i, p ∈ ps) : Ej N B K L its ps :=
  .mk <| fun a w hf hw => hK a w ⟨i, hi, hf.sub hL, (hw.pick hI).sub hp⟩
theorem Cj.pick (hp : Pick its its') (hs : ∀ p ∈ ps', p ∈ ps) (h : Cj P N B c Q L its' ps') : Cj P N B c Q L its ps := by
  refine ⟨?_⟩
  intro a w hf hw
  exact h a w hf ((hw.pick hp).sub hs)
/-- A loop; what it needs picked out of what there is. -/
theorem Cj.loopP {ι : Type} (I : ι → Prop) (Lf : ι → Sl) (If : ι → List Item) (Pf : ι → List (World → Prop)) (μ : ι → Nat) (hc : c = .loop c1) (i0 : ι) (h0 : I i0) (hL : Sub (Lf i0) L) (hI : Pick its (If i0)) (hp : ∀ p ∈ Pf i0, p ∈ ps)
    (h : ∀ i, I i → Cj P N B c1 (Exit.then (fun a w => ∃ j, (I j ∧ μ j < μ i) ∧ Fr N a (Lf j) ∧ WS B w (If j) (Pf j)) Q) (Lf i) (If i) (Pf i)) : Cj P N B c Q L its ps :=
  Cj.pick hI hp (Cj.loop I Lf If Pf μ hc i0 h0 hL rfl (fun _ h => h) h)
end
section
variable {P : Program} {N : Nat} {B : Base} {L : Sl} {its : List Item} {ps : List (World → Prop)} {o : Oper} {T n m : Nat} {x y : Operand} {ad ad' : Addr} {xs : List Int} {p q : Int}
namespace Y
/-- A number out of a row of numbers that is only read. -/
theorem loadI (hop : o.op = .load T x) (hx : ev L x = some (.pointer (some ad'))) (hT : ScT P T) (hp : (fun w => (Kd.int .i64).C w (some ad) n xs) ∈ ps) (i : Int) (h0 : 0 ≤ i) (h1 : i < (n : Int)) (had : ad' = ad.add (i.toNat * 1)) : Yd P N B o (.int .i64 (xs.getD i.toNat 0)) L its ps := .mk <| fun a w hf hW => by
  obtain ⟨ad2, c, e, hl, hr, hcell⟩ := ReadsRow.get_ (hW.fact hp) 0 i h0 h1
  injection e with e
  subst e
  have hc : c = [.int .i64 (xs.getD i.toNat 0)] := hr
  subst hc
  have h2 : w.cell? ad' = some (.int .i64 (xs.getD i.toNat 0)) := by rw [had]; exact hcell 0 _ rfl
  generalize Value.int .i64 (xs.getD i.toNat 0) = v at h2 ⊢
  unfold execOp; rw [hop]; simp [hf.ev hx, run_load_one hT.out h2]
theorem mx {ts : Array TypeId} (hop : o.op = .call { callee := .builtin .max, args := #[x, y], argTypes := ts }) (hx : ev L x = some (.int .i64 p)) (hy : ev L y = some (.int .i64 q)) : Yd P N B o (.int .i64 (if q > p then q else p)) L its ps := .mk <| fun a w hf _ => by
  unfold execOp; rw [hop]
  simp [resolve, invoke, builtin, Builtin.max_, Builtin.max2, hf.ev hx, hf.ev hy]
end Y
end
end Go.Proofs.YtcgpibbbkdhpeaaW.SL

namespace Go.Proofs.YtcgpibbbkdhpeaaW.SL
open Go Go.RowKit Go.Proofs.YtcgpibbbkdhpeaaW.PrintWords Go.Proofs.YtcgpibbbkdhpeaaW.PrintLast
set_option linter.unusedSimpArgs false
set_option linter.unusedVariables false
section
variable {P : Program} {ops : Array Oper} {Q : Exit → Act → World → Prop} {md : Region.Mode} {ds : List Nat}
theorem wpAnyB_firstP {i : Nat} {oi : Oper} {v : Value} (hi : ops[i]? = some oi) (hsel : ∀ (j : Nat) (o : Oper) cs b, ops[j]? = some o → o.op ≠ .select cs b)
    (hQ : ∀ c a w, Q (.panic c) (a.put oi.dst v) w → Q (.panic c) a w) :
    ∀ (fuel : Nat) (listed : Array Bool) (a : Act) (w : World),
      (∀ j oj, ops[j]? = some oj → j ≠ i → listed.getD j true = false → (∀ e ∈ oj.after, Region.binds md e = true → e.on ≠ i) → oi.apart ops oj = true) →
      ListedClosed md ops listed →
      i ∈ Region.ready md ops listed → YieldsIf P ops (fun _ => True) oi v a →
      wpAnyB P md ops Q ds fuel (listed.setIfInBounds i true) (a.put oi.dst v) w → wpAnyB P md ops Q ds (fuel + 1) listed a w := by
  intro fuel
  induction fuel with
  | zero =>
    intro listed a w _ _ hr hy H
    refine ⟨fun h => (by rw [h] at hr; cases hr), fun j hj => ?_⟩
    by_cases hji : j = i
    · subst hji; exact hy.wpOp hi trivial ⟨fun _ => Below.refl _ _, H⟩
    · have := ready_mono hj hji
      rw [H.1] at this
      cases this
  | succ fuel ih =>
    intro listed a w hfree hc hr hy H
    refine ⟨fun h => (by rw [h] at hr; cases hr), fun j hj => ?_⟩
    by_cases hji : j = i
    · subst hji; exact hy.wpOp hi trivial ⟨fun _ => Below.refl _ _, H⟩
    · have h1 := H.2 j (ready_mono hj hji)
      obtain ⟨hjun, oj, hoj, hall⟩ := mem_ready.1 hj
      have hiun := (mem_ready.1 hr).1
      have hnot : ∀ e ∈ oj.after, Region.binds md e = true → e.on ≠ i := fun e he hb heq => by
        have h1 := hall e he hb
        rw [heq] at h1
        rcases Nat.lt_or_ge i listed.size with h' | h'
        · simp [h'] at hiun h1; rw [hiun] at h1; cases h1
        · simp [Array.getElem?_eq_none h'] at h1
      have h2 := wpOp_putIf hoj (hfree j oj hoj hji hjun hnot) (fun cs b => hsel i oi cs b hi) (fun cs b => hsel j oj cs b hoj) hQ hy h1
      have hfree' : ∀ k ok, ops[k]? = some ok → k ≠ i → (listed.setIfInBounds j true).getD k true = false →
          (∀ e ∈ ok.after, Region.binds md e = true → e.on ≠ i) → oi.apart ops ok = true := fun k ok hk hki hun hno => by
        refine hfree k ok hk hki ?_ hno
        by_cases hjk : j = k
        · subst hjk; exact hjun
        · rw [getD_set_ne true hjk] at hun; exact hun
      refine wpOp_mono (fun a' w' h3 => ⟨h3.2.1, ih (listed.setIfInBounds j true) a' w' hfree' (hc.set hj) (ready_mono hr (Ne.symm hji)) h3.1 ?_⟩) h2
      rw [Array.setIfInBounds_comm _ _ hji]
      exact h3.2.2
/-- Behind the operation: K; elsewhere Q. -/
def Qn (K : Act → World → Prop) (Q : Exit → Act → World → Prop) : Exit → Act → World → Prop
  | .normal, a, w => K a w
  | e, a, w => Q e a w
theorem wp_Qn {o : Oper} {a : Act} {w : World} {K K' : Act → World → Prop} (h : o.wp P a w K (Qn K' Q)) : o.wp P a w K Q := by
  unfold Oper.wp at h ⊢
  cases hr : (execOp a.eval o).run P w with
  | ok n w' =>
    rw [hr] at h
    cases n with
    | enter f args =>
      rw [Oper.upon_enter] at h ⊢
      refine Calls.mono h (fun e w'' he => ?_)
      cases e with
      | returned v => exact he
      | panicked c => exact he
      | outgrown => exact he
    | _ => exact h
  | halt hh w' =>
    rw [hr] at h
    cases hh <;> exact h
/-- One operation of a region, what follows by K. -/
theorem wpOp_one {D : Dm} {i : Nat} {o : Oper} {a : Act} {w : World} {K : Act → World → Prop} (ho : ops[i]? = some o) (ht : D.takes 0 = false) (hd : i ∈ ds ∨ D.needs 0 = true)
    (h : runG P ops (Qn K Q) D 0 [o] a w) : wpOp P ops Q i (fun a' w' => (i ∉ ds → Below w.heap.size w w') ∧ K a' w') a w := by
  unfold runG at h
  rw [if_neg (by rw [ht]; simp)] at h
  unfold wpOp
  rw [ho]
  dsimp only
  have hds : i ∉ ds → D.needs 0 = true := fun hn => hd.resolve_left hn
  by_cases hw : Region.wanted o (yielded ops a.tmps) = true
  · rw [if_pos hw] at h ⊢
    exact .inl (Oper.wp_mono (fun a' w' h' => ⟨fun hn => h'.1 (hds hn), h'.2⟩) (wp_Qn h))
  · rw [if_neg hw] at h ⊢
    exact ⟨fun _ => Below.refl _ _, h⟩
end
section
variable (P : Program) (N : Nat) (B : Base)
/-- The operations that are listed in l are done; n are left. -/
structure Jw (ds : List Nat) (n : Nat) (ops : Array Oper) (Q : Exit → Act → World → Prop) (l : List Bool) (L : Sl) (its : List Item) (ps : List (World → Prop)) : Prop where
  mk :: (out : ∀ a w, Fr N a L → WS B w its ps → wpAnyB P .any ops Q ds n l.toArray a w)
end
def takeOk (ops : Array Oper) (l : List Bool) (i : Nat) : Bool := takeT (rtab .any ops) [] l (l.set i true) i
def readyAre (ops : Array Oper) (l : List Bool) (is : List Nat) : Bool := readyT (rtab .any ops).2 l == is
section
variable {P : Program} {N : Nat} {B : Base} {L L' : Sl} {its its' : List Item} {ps ps' : List (World → Prop)} {Q : Exit → Act → World → Prop} {ops : Array Oper} {c : Code} {ds : List Nat} {n i j d : Nat} {l : List Bool} {o : Oper} {v : Value}
theorem Jw.done (hr : readyAre ops l [] = true) (h : Ej N B (Q .normal) L its ps) : Jw P N B ds n ops Q l L its ps := by
  refine ⟨fun a w hf hw => ?_⟩
  simp only [readyAre, beq_iff_eq] at hr
  have hr' : Region.ready .any ops l.toArray = [] := by rw [ready_eq]; simpa using hr
  cases n with
  | zero => exact ⟨hr', h a w hf hw⟩
  | succ n => exact ⟨fun _ => h a w hf hw, fun i hi => by rw [hr'] at hi; cases hi⟩
/-- What is pure is taken. -/
theorem Jw.take (i : Nat) (ho : ops[i]? = some o) (ht : takeOk ops l i = true) (hQ : ∀ c a d v w, Q (.panic c) (Act.put a d v) w → Q (.panic c) a w) (hy : ∀ w, Yd P N (base w) o v L [] []) (hw : wants ops L o = some true) (hd : o.dst = some d) (hN : Nat.blt d N = true)
    (h : Jw P N B ds n ops Q (l.set i true) ((d, v) :: L) its ps) : Jw P N B ds (n + 1) ops Q l L its ps := by
  refine ⟨fun a w hf hW => ?_⟩
  have h3 := take_of (md := .any) (ops := ops) (l := l.toArray) (l' := l.toArray.setIfInBounds i true) rfl (by simpa [takeOk] using ht)
  simp only [takeB, Bool.and_eq_true, beq_iff_eq] at h3
  obtain ⟨⟨⟨⟨⟨g1, g2⟩, g3⟩, g4⟩, g5⟩, _⟩ := h3
  have g3' : i ∈ Region.ready .any ops l.toArray := by simpa using g3
  have := h.out (a.put o.dst v) w (by rw [hd]; exact hf.put hN _) hW
  refine wpAnyB_firstP ho (Region.noSelect_spec g1) (fun c a w => hQ c a _ _ w) n l.toArray a w (Region.free_spec ho g2) (Region.closedB_spec g4) g3' (.inl ⟨hf.wants hw, fun W _ => hy W a W hf (WS.start W)⟩) ?_
  simpa using this
/-- What alone is ready. -/
theorem Jw.step (D : Dm) (i : Nat) (ho : ops[i]? = some o) (hr : readyAre ops l [i] = true) (hd : (ds.contains i || D.needs 0) = true) (ht : D.takes 0 = false)
    (h : Jl P N B D 0 ops (Qn (wpAnyB P .any ops Q ds n (l.set i true).toArray) Q) [o] L its ps) : Jw P N B ds (n + 1) ops Q l L its ps := by
  refine ⟨fun a w hf hW => ?_⟩
  simp only [readyAre, beq_iff_eq] at hr
  have hr' : Region.ready .any ops l.toArray = [i] := by rw [ready_eq]; simpa using hr
  refine ⟨fun h0 => (by rw [hr'] at h0; cases h0), fun j hj => ?_⟩
  rw [hr'] at hj
  obtain rfl : j = i := by simpa using hj
  have := wpOp_one (ds := ds) ho ht (by simpa using hd) (h a w hf hW)
  simpa using this
end
end Go.Proofs.YtcgpibbbkdhpeaaW.SL

namespace Go.Proofs.YtcgpibbbkdhpeaaW.SL
open Go Go.RowKit Go.Proofs.YtcgpibbbkdhpeaaW.PrintWords
set_option linter.unusedSimpArgs false
set_option linter.unusedVariables false
theorem rowsC {α : Type} {dk : Kd α} {e : Nat} {ok : Nat → Prop} {w w' W : World} {A : Option Addr} {n c : Nat} {xs : List α} (hr : dk.R e w' w.heap.size ok (.slice A n c) xs) (hm : ∀ k, w.heap.size ≤ k → k < w'.heap.size → W.heap[k]? = w'.heap[k]?) : dk.C W A xs.length xs :=
  (Kd.R_reads' (Kd.R_move (Kd.R_bound hr) (fun k hk => hm k hk.2.1 hk.2.2.1))).2.2
section
variable {P : Program} {N : Nat} {B : Base} {L L' : Sl} {its its' : List Item} {ps ps' : List (World → Prop)} {Q : Exit → Act → World → Prop} {D : Dm} {k : Nat} {ops : Array Oper} {rest : List Oper} {o : Oper} {d e0 e1 e2 : Nat} {α β γ : Type} {da : Kd α} {db : Kd β} {dc : Kd γ}
/-- A call that makes one row. -/
theorem Jl.draw1 (V : Value → Value) (xs : List α) {f : FuncId} {args : Array Operand} {ts : Array TypeId} {vals : List Value} (hw : wants ops L o = some true) (hop : o.op = .call { callee := .value (.func f), args := args, argTypes := ts }) (hd : o.dst = some d) (hN : Nat.blt d N = true)
    (he : Ent P f) (hargs : evs L args.toList = some vals)
    (hc : ∀ w, WS B w its ps → Calls P f vals.toArray w fun e' w' => ∃ v0, e' = .returned (V v0) ∧ da.R e0 w' w.heap.size (fun _ => True) v0 xs ∧ Below w.heap.size w w')
    (h : ∀ A0 c0, xs.length ≤ c0 → Jl P N B D (k + 1) ops Q rest ((d, V (.slice A0 xs.length c0)) :: L) its ((fun W => da.C W A0 xs.length xs) :: ps)) (hD : D.takes k = false := by rfl) : Jl P N B D k ops Q (o :: rest) L its ps :=
  Jl.call (ι := Option Addr × Nat) (fun i => xs.length ≤ i.2) (fun i => V (.slice i.1 xs.length i.2)) (fun _ => its) (fun i => (fun W => da.C W i.1 xs.length xs) :: ps) hw hop hd hN rfl he hargs (fun w hW => by
    simp only [Array.empty_append, Array.append_empty]
    refine (hc w hW).mono ?_
    rintro e' w' ⟨v0, rfl, r0, hb⟩
    obtain ⟨A0, c0, rfl, l0, _⟩ := Kd.R_reads r0
    exact ⟨(A0, c0), rfl, l0, hW.fresh hb (fun W _ _ _ _ hm => rowsC r0 hm), fun _ => hb⟩) (fun i hi => h i.1 i.2 hi) hD
/-- A call that makes three rows. -/
theorem Jl.draw3 (V : Value → Value → Value → Value) (xs : List α) (ys : List β) (zs : List γ) {f : FuncId} {args : Array Operand} {ts : Array TypeId} {vals : List Value} (hw : wants ops L o = some true) (hop : o.op = .call { callee := .value (.func f), args := args, argTypes := ts }) (hd : o.dst = some d) (hN : Nat.blt d N = true)
    (he : Ent P f) (hargs : evs L args.toList = some vals)
    (hc : ∀ w, WS B w its ps → Calls P f vals.toArray w fun e' w' => ∃ v0 v1 v2, e' = .returned (V v0 v1 v2) ∧ da.R e0 w' w.heap.size (fun _ => True) v0 xs ∧ db.R e1 w' w.heap.size (fun k_ => some k_ ≠ (v2 : Value).ownBlock) v1 ys ∧ dc.R e2 w' w.heap.size (fun k_ => some k_ ≠ (v1 : Value).ownBlock) v2 zs ∧ Below w.heap.size w w')
    (h : ∀ A0 c0 A1 c1 A2 c2, xs.length ≤ c0 → ys.length ≤ c1 → zs.length ≤ c2 → Jl P N B D (k + 1) ops Q rest ((d, V (.slice A0 xs.length c0) (.slice A1 ys.length c1) (.slice A2 zs.length c2)) :: L) its ((fun W => da.C W A0 xs.length xs) :: (fun W => db.C W A1 ys.length ys) :: (fun W => dc.C W A2 zs.length zs) :: ps)) (hD : D.takes k = false := by rfl) : Jl P N B D k ops Q (o :: rest) L its ps :=
  Jl.call (ι := (Option Addr × Nat) × (Option Addr × Nat) × (Option Addr × Nat)) (fun i => xs.length ≤ i.1.2 ∧ ys.length ≤ i.2.1.2 ∧ zs.length ≤ i.2.2.2) (fun i => V (.slice i.1.1 xs.length i.1.2) (.slice i.2.1.1 ys.length i.2.1.2) (.slice i.2.2.1 zs.length i.2.2.2)) (fun _ => its) (fun i => (fun W => da.C W i.1.1 xs.length xs) :: (fun W => db.C W i.2.1.1 ys.length ys) :: (fun W => dc.C W i.2.2.1 zs.length zs) :: ps) hw hop hd hN rfl he hargs (fun w hW => by
    simp only [Array.empty_append, Array.append_empty]
    refine (hc w hW).mono ?_
    rintro e' w' ⟨v0, v1, v2, rfl, r0, r1, r2, hb⟩
    obtain ⟨A0, c0, rfl, l0, _⟩ := Kd.R_reads r0
    obtain ⟨A1, c1, rfl, l1, _⟩ := Kd.R_reads r1
    obtain ⟨A2, c2, rfl, l2, _⟩ := Kd.R_reads r2
    have hF := hW.fresh hb (p := fun W => da.C W A0 xs.length xs ∧ db.C W A1 ys.length ys ∧ dc.C W A2 zs.length zs) (fun W _ _ _ _ hm => ⟨rowsC r0 hm, rowsC r1 hm, rowsC r2 hm⟩)
    have h3 := hF.imp (.head _) (fun W h => h.2.2)
    have h2 := h3.imp (.tail _ (.head _)) (fun W h => h.2.1)
    have h1 := h2.imp (.tail _ (.tail _ (.head _))) (fun W h => h.1)
    refine ⟨((A0, c0), (A1, c1), (A2, c2)), rfl, ⟨l0, l1, l2⟩, h1.sub (fun p hp => ?_), fun _ => hb⟩
    simp only [List.mem_cons] at hp ⊢
    rcases hp with rfl | rfl | rfl | hp
    · exact .inl rfl
    · exact .inr (.inl rfl)
    · exact .inr (.inr (.inl rfl))
    · exact .inr (.inr (.inr (.inr hp)))) (fun i hi => h i.1.1 i.1.2 i.2.1.1 i.2.1.2 i.2.2.1 i.2.2.2 hi.1 hi.2.1 hi.2.2) hD
end
end Go.Proofs.YtcgpibbbkdhpeaaW.SL

namespace Go.Proofs.YtcgpibbbkdhpeaaW.SL
open Go Go.RowKit Go.Proofs.YtcgpibbbkdhpeaaW.PrintWords
set_option linter.unusedSimpArgs false
set_option linter.unusedVariables false
abbrev KJ : Kd Int := Kd.int .i64
abbrev K1 : Kd (List Value) := Kd.raw 1
def cell1 (v : Value) : List Value := [v]
theorem map_cell1 (vs : List Value) (u : Value) : vs.map cell1 ++ [cell1 u] = (vs ++ [u]).map cell1 := by rw [List.map_append]; rfl
/-- Rows of ints, each in blocks from b on. -/
structure EV (eI b : Nat) (vs : List Value) (xs : List (List Int)) (W : World) : Prop where
  len : vs.length = xs.length
  el : ∀ (j : Nat) (x : List Int) (u : Value), xs[j]? = some x → vs[j]? = some u → KJ.R eI W 0 (fun k => b ≤ k) u x
/-- The same, and the row that holds them. -/
structure GV (eS eI b : Nat) (v : Value) (vs : List Value) (xs : List (List Int)) (W : World) : Prop where
  row : K1.R eS W 0 (fun k => b ≤ k) v (vs.map cell1)
  els : EV eI b vs xs W
section
variable {eS eI b : Nat} {v u : Value} {vs : List Value} {xs : List (List Int)} {x : List Int} {w W : World}
theorem EV.move (h : EV eI b vs xs w) (hm : ∀ k, b ≤ k → k < w.heap.size → W.heap[k]? = w.heap[k]?) : EV eI b vs xs W := ⟨h.len, fun j x u hx hu => Kd.R_step (h.el j x u hx hu) hm⟩
theorem GV.move (h : GV eS eI b v vs xs w) (hm : ∀ k, b ≤ k → k < w.heap.size → W.heap[k]? = w.heap[k]?) : GV eS eI b v vs xs W := ⟨Kd.R_step h.row hm, h.els.move hm⟩
theorem EV.weaken {b' : Nat} (h : EV eI b vs xs w) (hb : b' ≤ b) : EV eI b' vs xs w := ⟨h.len, fun j x u hx hu => Kd.R_mono (h.el j x u hx hu) (fun k hk => Nat.le_trans hb hk)⟩
theorem GV.weaken {b' : Nat} (h : GV eS eI b v vs xs w) (hb : b' ≤ b) : GV eS eI b' v vs xs w := ⟨Kd.R_mono h.row (fun k hk => Nat.le_trans hb hk), h.els.weaken hb⟩
theorem EV.nil : EV eI b [] [] W := ⟨rfl, fun j x u hx => by simp at hx⟩
theorem EV.push (h : EV eI b vs xs W) (hR : KJ.R eI W 0 (fun k => b ≤ k) u x) : EV eI b (vs ++ [u]) (xs ++ [x]) W := by
  refine ⟨by simp [h.len], fun j y q hy hq => ?_⟩
  rcases Nat.lt_or_ge j xs.length with hj | hj
  · rw [List.getElem?_append_left hj] at hy
    rw [List.getElem?_append_left (by rw [h.len]; exact hj)] at hq
    exact h.el j y q hy hq
  · have hj' : j = xs.length := by
      have := (List.getElem?_eq_some_iff.1 hy).1
      rw [List.length_append, List.length_singleton] at this
      omega
    subst hj'
    have e1 : x = y := by simpa using hy
    rw [← h.len] at hq
    have e2 : u = q := by simpa using hq
    subst e1; subst e2
    exact hR
theorem GV.reads {A : Option Addr} {n c : Nat} (h : GV eS eI b (.slice A n c) vs xs W) : n = vs.length ∧ n ≤ c ∧ K1.C W A (vs.map cell1).length (vs.map cell1) := by
  obtain ⟨h1, h2, h3⟩ := Kd.R_reads' h.row
  exact ⟨by simpa using h1, h2, h3⟩
end
section
variable {B : Base} {w w0 : World} {its : List Item} {ps : List (World → Prop)} {eS eI b g : Nat} {v u : Value} {vs : List Value} {xs : List (List Int)} {x : List Int}
theorem WS.both (h : WS B w its ps) {p q r : World → Prop} (hp : p ∈ ps) (hq : q ∈ ps) (hr : ∀ W, p W → q W → r W) : WS B w its (r :: ps) :=
  h.lay (fun S _ hps W hm => hr W (hps p hp W hm) (hps q hq W hm))
theorem WS.pure (h : WS B w its ps) {p : World → Prop} (hp : ∀ W, p W) : WS B w its (p :: ps) := h.lay (fun S _ _ W _ => hp W)
/-- An item of the call's own is written no more. -/
theorem WS.freezeP (h : WS (base w0) w its ps) {n : Nat} {i : Item} (hn : its[n]? = some i) {p : World → Prop} (hp : ∀ W A, i.p W A → (∀ k, A k → w0.heap.size ≤ k) → p W) : WS (base w0) w (its.eraseIdx n) (p :: ps) := by
  obtain ⟨h1, S, h2, h3, h4⟩ := h
  obtain ⟨A, B', g1, g2, g3, g4⟩ := h2.out hn
  refine ⟨h1, B', g2, fun k hk => h3 k ((g3 k).2 (.inr hk)), fun q hq => ?_⟩
  rcases List.mem_cons.1 hq with rfl | hq
  · exact fun W hm => hp W A (i.loc g1 hm.size (fun k hk => hm.block k (i.lt g1 hk) (g4 k hk))) (fun k hk => (h3 k ((g3 k).2 (.inl hk))).resolve_left (fun h => h))
  · exact (h4 q hq).step (Aft.refl S w) (fun k hk _ => (g3 k).2 (.inr hk))
theorem WS.freezeI (h : WS (base w0) w its ps) {n : Nat} (hn : its[n]? = some (.row KJ eI 0 u x)) : WS (base w0) w (its.eraseIdx n) ((fun W => KJ.R eI W 0 (fun k => w0.heap.size ≤ k) u x) :: ps) :=
  h.freezeP hn (fun W A hA hb => Kd.R_mono hA.1 hb)
theorem WS.pushV (h : WS (base w0) w its ps) {n : Nat} (hn : its[n]? = some (.row KJ eI 0 u x)) (hE : EV eI w0.heap.size vs xs ∈ ps) : WS (base w0) w (its.eraseIdx n) (EV eI w0.heap.size (vs ++ [u]) (xs ++ [x]) :: ps) :=
  ((h.freezeI hn).both (p := EV eI w0.heap.size vs xs) (List.mem_cons_of_mem _ hE) List.mem_cons_self (fun W h1 h2 => h1.push h2)).sub (fun p hp => by
    rcases List.mem_cons.1 hp with rfl | hp
    · exact List.mem_cons_self
    · exact List.mem_cons_of_mem _ (List.mem_cons_of_mem _ hp))
/-- What was built is whole. -/
theorem WS.wholeV (h : WS (base w0) w its ps) {n : Nat} (hn : its[n]? = some (.row K1 eS 0 v (vs.map cell1))) (hE : EV eI w0.heap.size vs xs ∈ ps) : WS (base w0) w (its.eraseIdx n) (GV eS eI w0.heap.size v vs xs :: ps) :=
  ((h.freezeP hn (p := fun W => K1.R eS W 0 (fun k => w0.heap.size ≤ k) v (vs.map cell1)) (fun W A hA hb => Kd.R_mono hA.1 hb)).both (p := EV eI w0.heap.size vs xs) (r := GV eS eI w0.heap.size v vs xs) (List.mem_cons_of_mem _ hE) List.mem_cons_self (fun W h1 h2 => ⟨h2, h1⟩)).sub (fun p hp => by
    rcases List.mem_cons.1 hp with rfl | hp
    · exact List.mem_cons_self
    · exact List.mem_cons_of_mem _ (List.mem_cons_of_mem _ hp))
/-- A literal of one row. -/
theorem WS.oneV (h : WS (base w0) w (.box g eS [u] :: .row KJ eI 0 u x :: its) ps) (hu : u.oneCell' = true) : WS (base w0) w its (GV eS eI w0.heap.size (.slice (some ⟨g, 0, none⟩) 1 1) [u] [x] :: ps) := by
  have h1 := h.freezeP (n := 0) rfl (p := fun W => K1.R eS W 0 (fun k => w0.heap.size ≤ k) (.slice (some ⟨g, 0, none⟩) 1 1) [[u]]) (fun W A hA hb => box_raw (rows := [[u]]) hA.1 (by simp) (Nat.zero_le _) rfl (Nat.le_refl _) (by simp [maxLen]) (hb g ((hA.2 g).2 rfl)) (fun j us (hj : [[u]][j]? = some us) => by
    have hj0 : j = 0 := by have := (List.getElem?_eq_some_iff.1 hj).1; simpa using this
    subst hj0
    have e : [u] = us := by simpa using hj
    subst e
    refine ⟨rfl, rfl, ?_⟩
    intro q hq
    rw [List.mem_singleton.1 hq]; exact hu))
  have h2 := WS.freezeI (n := 0) (eI := eI) (u := u) (x := x) h1 rfl
  refine (h2.both (p := fun W => KJ.R eI W 0 (fun k => w0.heap.size ≤ k) u x) (q := fun W => K1.R eS W 0 (fun k => w0.heap.size ≤ k) (.slice (some ⟨g, 0, none⟩) 1 1) [[u]]) (r := GV eS eI w0.heap.size (.slice (some ⟨g, 0, none⟩) 1 1) [u] [x]) List.mem_cons_self (List.mem_cons_of_mem _ List.mem_cons_self) (fun W q1 q2 => ⟨q2, by have := (EV.nil (eI := eI) (b := w0.heap.size) (W := W)).push q1; exact this⟩)).sub (fun p hp => ?_)
  rcases List.mem_cons.1 hp with rfl | hp
  · exact List.mem_cons_self
  · exact List.mem_cons_of_mem _ (List.mem_cons_of_mem _ (List.mem_cons_of_mem _ hp))
/-- One of the rows, by itself. -/
theorem WS.elV (h : WS B w its ps) (hE : EV eI b vs xs ∈ ps) {j : Nat} (hx : xs[j]? = some x) (hu : vs[j]? = some u) : ∃ A c, (u = .slice A x.length c ∧ x.length ≤ c) ∧ WS B w its ((fun W => KJ.C W A x.length x) :: ps) := by
  obtain ⟨A, c, rfl, hl, _⟩ := Kd.R_reads ((h.fact hE).el j x u hx hu)
  exact ⟨A, c, ⟨rfl, hl⟩, h.imp hE (fun W hW => (Kd.R_reads' (hW.el j x _ hx hu)).2.2)⟩
theorem WS.elsV (h : WS B w its ps) (hG : GV eS eI b v vs xs ∈ ps) : WS B w its (EV eI b vs xs :: ps) := h.imp hG (fun W hW => hW.els)
end
/-- A block of ints, read as a row. -/
theorem C_box {w : World} {g T : Nat} (l : List Int) (h : w.heap[g]? = some (.cells (l.map (Value.int .i64)).toArray T (0, 0))) (hl : l.length ≤ 9223372036854775807) : KJ.C w (some ⟨g, 0, none⟩) l.length l := by
  refine ⟨rfl, hl, fun _ => ⟨_, rfl, fun j p hj => ⟨[.int .i64 p], rfl, rfl, fun i u hu => ?_⟩⟩⟩
  have hi : i = 0 := by have := (List.getElem?_eq_some_iff.1 hu).1; simpa using this
  subst hi
  have hu' : Value.int .i64 p = u := by simpa using hu
  subst hu'
  have := Box_cells h 0 j (.int .i64 p) (by simp [hj])
  simpa [show KJ.sz = 1 from rfl] using this
theorem Cells_below {w W : World} {ad : Addr} {cs : List Value} (h : Cells w ad cs) (hb : Below w.heap.size w W) : Cells W ad cs := fun j u hu => pw_cell_below hb (h j u hu)
section
variable {P : Program} {N : Nat} {B : Base} {w0 : World} {L L' : Sl} {its its' : List Item} {ps ps' : List (World → Prop)} {Q : Exit → Act → World → Prop} {D : Dm} {k : Nat} {ops : Array Oper} {rest : List Oper} {o : Oper} {d T n m gx eS eI b bytes : Nat} {v u : Value} {x y : Operand} {vs : List Value} {xs : List (List Int)} {z : List Int}
/-- Row i's value out of the row that holds it. -/
theorem Y.loadV {ad ad' : Addr} {c : Nat} (hop : o.op = .load T x) (hx : ev L x = some (.pointer (some ad'))) (hT : ScT P T) (hp : GV eS eI b (.slice (some ad) n c) vs xs ∈ ps) (i : Int) (h0 : 0 ≤ i) (h1 : i < (n : Int)) (had : ad' = ad.add (i.toNat * 1)) (hu : vs[i.toNat]? = some u) : Yd P N B o u L its ps := .mk <| fun a w hf hW => by
  obtain ⟨e, _, hC⟩ := (hW.fact hp).reads
  obtain ⟨_, hcell⟩ := cells_of_C (us := [u]) hC (i := i.toNat) (by rw [List.getElem?_map, hu]; rfl)
  have h2 : w.cell? ad' = some u := by
    have := hcell 0 u rfl
    rw [had]
    have e0 : (ad.add (i.toNat * 1)).add 0 = ad.add (i.toNat * 1) := by simp [Addr.add]
    rwa [e0] at this
  unfold execOp; rw [hop]; simp [hf.ev hx, run_load_one hT.out h2]
/-- A literal without rows. -/
theorem Jl.lit0V {sz : Nat} (hw : wants ops L o = some true) (hop : o.op = .buildSlice T 0 #[]) (hd : o.dst = some d) (hN : Nat.blt d N = true) (hT : ElT P T eS sz) (eI b : Nat)
    (h : ∀ g, Jl P N B D (k + 1) ops Q rest ((d, .slice (some ⟨g, 0, none⟩) ([] : List Value).length 0) :: L) (.row K1 eS 0 (.slice (some ⟨g, 0, none⟩) ([] : List Value).length 0) (([] : List Value).map cell1) :: its) (EV eI b [] [] :: ps)) (hD : D.takes k = false := by rfl) : Jl P N B D k ops Q (o :: rest) L its ps :=
  Jl.lit0 K1 hw hop hd hN hT (fun g => Jl.ws (ι := Unit) (fun _ => True) (fun _ => _) (fun _ => EV eI b [] [] :: ps) (fun w hW => ⟨(), trivial, hW.pure (fun _ => EV.nil)⟩) (fun _ _ => h g)) hD
/-- x = append(x, one row of its own). -/
theorem Jl.appV (hw : wants ops L o = some true) (hop : o.op = .call { callee := .builtin .append, args := #[x, y], argTypes := #[T, T] }) (hd : o.dst = some d) (hN : Nat.blt d N = true) (hx : ev L x = some v) (hy : ev L y = some (.slice (some ⟨gx, 0, none⟩) 1 1))
    (hT : ApT P T eS 1 bytes) (hb : Item.box gx eS [u] ∈ its) (hone : u.oneCell' = true) (hn : OutAt (.row K1 eS 0 v (vs.map cell1)) its its') {its2 : List Item} (hn2 : OutAt (.row KJ eI 0 u z) its' its2) (hE : EV eI w0.heap.size vs xs ∈ ps)
    (hl : (vs.length + 1) * bytes ≤ 140737488355328) (hl2 : vs.length + 1 ≤ 9223372036854775807)
    (h : ∀ A c, vs.length + 1 ≤ c → Jl P N (base w0) D (k + 1) ops Q rest ((d, .slice A (vs ++ [u]).length c) :: L) (.row K1 eS 0 (.slice A (vs ++ [u]).length c) ((vs ++ [u]).map cell1) :: its2) (EV eI w0.heap.size (vs ++ [u]) (xs ++ [z]) :: ps)) (hD : D.takes k = false := by rfl) (hEE : D.needs k = false := by rfl) : Jl P N (base w0) D k ops Q (o :: rest) L its ps :=
  Jl.app (dk := K1) (cell1 u) (fun _ => False) hw hop hd hN hx hy hT hb rfl (fun w => ⟨rfl, rfl, fun q hq => by rw [List.mem_singleton.1 hq]; exact hone⟩) (fun q hq => by rw [List.mem_singleton.1 hq]; exact hone) hn (by simpa using hl) (by simpa using hl2) (fun A c hc => by
    rw [map_cell1, List.length_map]
    rw [List.length_map] at hc
    obtain ⟨n2, hn3, he⟩ := hn2.at
    exact Jl.ws (ι := Unit) (fun _ => True) (fun _ => (.row K1 eS 0 (.slice A (vs ++ [u]).length c) ((vs ++ [u]).map cell1) :: its2)) (fun _ => _) (fun w hW => ⟨(), trivial, by
      have := hW.pushV (n := n2 + 1) (vs := vs) (xs := xs) hn3 hE
      rw [he]
      exact this⟩) (fun _ _ => h A c hc)) hD hEE
/-- A call that makes two rows. -/
theorem Jl.draw2 {α β : Type} {da : Kd α} {db : Kd β} {e0 e1 : Nat} {ok0 ok1 : Value → Value → Nat → Prop} (V : Value → Value → Value) (xs : List α) (ys : List β) {f : FuncId} {args : Array Operand} {ts : Array TypeId} {vals : List Value} (hw : wants ops L o = some true) (hop : o.op = .call { callee := .value (.func f), args := args, argTypes := ts }) (hd : o.dst = some d) (hN : Nat.blt d N = true)
    (he : Ent P f) (hargs : evs L args.toList = some vals)
    (hc : ∀ w, WS B w its ps → Calls P f vals.toArray w fun e' w' => ∃ v0 v1, e' = .returned (V v0 v1) ∧ da.R e0 w' w.heap.size (fun k_ => ok0 v0 v1 k_) v0 xs ∧ db.R e1 w' w.heap.size (fun k_ => ok1 v0 v1 k_) v1 ys ∧ Below w.heap.size w w')
    (h : ∀ A0 c0 A1 c1, xs.length ≤ c0 → ys.length ≤ c1 → Jl P N B D (k + 1) ops Q rest ((d, V (.slice A0 xs.length c0) (.slice A1 ys.length c1)) :: L) its ((fun W => da.C W A0 xs.length xs) :: (fun W => db.C W A1 ys.length ys) :: ps)) (hD : D.takes k = false := by rfl) : Jl P N B D k ops Q (o :: rest) L its ps :=
  Jl.call (ι := (Option Addr × Nat) × (Option Addr × Nat)) (fun i => xs.length ≤ i.1.2 ∧ ys.length ≤ i.2.2) (fun i => V (.slice i.1.1 xs.length i.1.2) (.slice i.2.1 ys.length i.2.2)) (fun _ => its) (fun i => (fun W => da.C W i.1.1 xs.length xs) :: (fun W => db.C W i.2.1 ys.length ys) :: ps) hw hop hd hN rfl he hargs (fun w hW => by
    simp only [Array.empty_append, Array.append_empty]
    refine (hc w hW).mono ?_
    rintro e' w' ⟨v0, v1, rfl, r0, r1, hb⟩
    obtain ⟨A0, c0, rfl, l0, _⟩ := Kd.R_reads r0
    obtain ⟨A1, c1, rfl, l1, _⟩ := Kd.R_reads r1
    have hF := hW.fresh hb (p := fun W => da.C W A0 xs.length xs ∧ db.C W A1 ys.length ys) (fun W _ _ _ _ hm => ⟨rowsC r0 hm, rowsC r1 hm⟩)
    have h2 := hF.imp (List.mem_cons_self) (fun W h => h.2)
    have h1 := h2.imp (List.mem_cons_of_mem _ (List.mem_cons_self)) (fun W h => h.1)
    refine ⟨((A0, c0), (A1, c1)), rfl, ⟨l0, l1⟩, h1.sub (fun p hp => ?_), fun _ => hb⟩
    simp only [List.mem_cons] at hp ⊢
    rcases hp with rfl | rfl | hp
    · exact .inl rfl
    · exact .inr (.inl rfl)
    · exact .inr (.inr (.inr hp))) (fun i hi => h i.1.1 i.1.2 i.2.1 i.2.2 hi.1 hi.2) hD
/-- A literal of two ints. -/
theorem Jl.lit2 {p q : Int} (hw : wants ops L o = some true) (hop : o.op = .buildSlice T 2 #[(0, x), (1, y)]) (hd : o.dst = some d) (hN : Nat.blt d N = true) (hx : ev L x = some (.int .i64 p)) (hy : ev L y = some (.int .i64 q)) (hT : ElT P T eI 1) (hz : ZeroT P eI [.int .i64 0])
    (h : ∀ g, Jl P N B D (k + 1) ops Q rest ((d, .slice (some ⟨g, 0, none⟩) 2 2) :: L) (.box g eI [.int .i64 p, .int .i64 q] :: its) ps) (hD : D.takes k = false := by rfl) : Jl P N B D k ops Q (o :: rest) L its ps :=
  Jl.e (fun g : Nat => .slice (some ⟨g, 0, none⟩) 2 2) (fun g => .box g eI [.int .i64 p, .int .i64 q] :: its) (fun _ => ps) hw hd hN (fun a w hf hW => by
    have hTo := hT.out
    unfold elT at hTo
    obtain ⟨z, hz1, hz2⟩ := run_zeroT (w := w) hz.out
    have hzc : z.cells = #[.int .i64 0] := by apply Array.toList_inj.1; rw [hz2]
    cases hu : P.underlying T with
    | none => simp [hu] at hTo
    | some dd =>
      cases dd <;> simp [hu] at hTo
      rename_i e2
      obtain ⟨j, hj, rfl, hj1⟩ := hTo
      refine ⟨w.heap.size, w.alloc (.cells #[.int .i64 p, .int .i64 q] e2), ?_, fun _ => below_alloc (Below.refl _ _) _, hW.alloc e2 #[.int .i64 p, .int .i64 q]⟩
      unfold execOp; rw [hop]
      have e : ∀ f : Nat → Value, Array.map f (Array.range 2) = #[f 0, f 1] := fun f => by apply Array.toList_inj.1; rw [Array.toList_map, Array.toList_range]; rfl
      simp [Instr.buildSlice, run_underlying hu, sizeOf, typeInfo, hj, hj1, hz1, hzc, Instr.fill, newRow, hf.ev hx, hf.ev hy, Value.cells, e]) h hD
/-- A call that makes a row of rows. -/
theorem Jl.callGV {f : FuncId} {args : Array Operand} {ts : Array TypeId} {vals : List Value} (V : Value → Value) (hw : wants ops L o = some true) (hop : o.op = .call { callee := .value (.func f), args := args, argTypes := ts }) (hd : o.dst = some d) (hN : Nat.blt d N = true)
    (he : Ent P f) (hargs : evs L args.toList = some vals)
    (hc : ∀ w, WS (base w0) w its ps → Calls P f vals.toArray w fun e' w' => ∃ A c vs, e' = .returned (V (.slice A (vs : List Value).length c)) ∧ GV eS eI w.heap.size (.slice A vs.length c) vs xs w' ∧ Below w.heap.size w w')
    (h : ∀ A c vs, (vs : List Value).length = xs.length → vs.length ≤ c → Jl P N (base w0) D (k + 1) ops Q rest ((d, V (.slice A vs.length c)) :: L) its (GV eS eI w0.heap.size (.slice A vs.length c) vs xs :: ps)) (hD : D.takes k = false := by rfl) : Jl P N (base w0) D k ops Q (o :: rest) L its ps :=
  Jl.call (ι := Option Addr × Nat × List Value) (fun i => i.2.2.length = xs.length ∧ i.2.2.length ≤ i.2.1) (fun i => V (.slice i.1 i.2.2.length i.2.1)) (fun _ => its) (fun i => GV eS eI w0.heap.size (.slice i.1 i.2.2.length i.2.1) i.2.2 xs :: ps) hw hop hd hN rfl he hargs (fun w hW => by
    simp only [Array.empty_append, Array.append_empty]
    refine (hc w hW).mono ?_
    rintro e' w' ⟨A, c, vs, rfl, hG, hb⟩
    exact ⟨(A, c, vs), rfl, ⟨hG.els.len, hG.reads.2.1⟩, hW.fresh hb (fun W _ _ _ _ hm => (hG.move hm).weaken hW.size), fun _ => hb⟩) (fun i hi => h i.1 i.2.1 i.2.2 hi.1 hi.2) hD
end
end Go.Proofs.YtcgpibbbkdhpeaaW.SL

namespace Go.Proofs.YtcgpibbbkdhpeaaW.SL
open Go Go.RowKit Go.Proofs.YtcgpibbbkdhpeaaW.PrintWords
set_option linter.unusedSimpArgs false
set_option linter.unusedVariables false
section
variable {P : Program} {N : Nat} {B : Base} {L : Sl} {its : List Item} {ps : List (World → Prop)} {o : Oper} {T n m : Nat} {x : Operand} {ad ad' : Addr} {α : Type} {dk : Kd α} {xs : List α} {u : Value}
namespace Y
/-- A whole element of a row of numbers' records that is only read. -/
theorem loadK (z : α) (us : List Value) (hop : o.op = .load T x) (hx : ev L x = some (.pointer (some ad'))) (hT : AggT P T m) (hp : (fun w => dk.C w (some ad) n xs) ∈ ps) (i : Int) (h0 : 0 ≤ i) (h1 : i < (n : Int)) (had : ad' = ad.add (i.toNat * dk.sz)) (hus : ∀ w cs, dk.K w (xs.getD i.toNat z) cs → cs = us) (hl : Nat.beq us.length m = true) : Yd P N B o (.agg us.toArray) L its ps := .mk <| fun a w hf hW => by
  obtain rfl := Nat.eq_of_beq_eq_true hl
  obtain ⟨ad2, c, e, hl, hr, hcell⟩ := ReadsRow.get_ (hW.fact hp) z i h0 h1
  injection e with e
  subst e
  obtain rfl := hus w c hr
  have hC : Cells w ad' c := fun j u hu => by rw [had, add_add]; exact hcell j u hu
  unfold execOp; rw [hop]; simp [hf.ev hx, run_load_agg hT.out hC]
theorem loadK1 (z : α) (us : List Value) (hop : o.op = .load T x) (hx : ev L x = some (.pointer (some ad'))) (hT : ScT P T) (hp : (fun w => dk.C w (some ad) n xs) ∈ ps) (i : Int) (j : Nat) (h0 : 0 ≤ i) (h1 : i < (n : Int)) (had : ad' = (ad.add (i.toNat * dk.sz)).add j) (hus : ∀ w cs, dk.K w (xs.getD i.toNat z) cs → cs = us) (hu : us[j]? = some u) : Yd P N B o u L its ps := .mk <| fun a w hf hW => by
  obtain ⟨ad2, c, e, hl, hr, hcell⟩ := ReadsRow.get_ (hW.fact hp) z i h0 h1
  injection e with e
  subst e
  obtain rfl := hus w c hr
  have hC : w.cell? ad' = some u := by rw [had, add_add]; exact hcell j u hu
  unfold execOp; rw [hop]; simp [hf.ev hx, run_load_one hT.out hC]
end Y
end
end Go.Proofs.YtcgpibbbkdhpeaaW.SL

namespace Go.Proofs.YtcgpibbbkdhpeaaW.Pl
open Go.RowKit Go.Proofs.YtcgpibbbkdhpeaaW.PrintWords Classical

theorem w64 {x : Int} (h : -9223372036854775808 ≤ x ∧ x ≤ 9223372036854775807) : wrap64 x = x := by unfold wrap64; omega
/-- A place of a list (a word that simp leaves alone). -/
def nth {α : Type} (l : List α) (i : Nat) (z : α) : α := l.getD i z
theorem nth_get {α : Type} {l : List α} {i : Nat} {z : α} (h : i < l.length) : nth l i z = l[i] := by
  unfold nth; rw [List.getD_eq_getElem?_getD, List.getElem?_eq_getElem h]; rfl
theorem nth_mem {α : Type} {l : List α} {i : Nat} {z : α} (h : i < l.length) : nth l i z ∈ l := by rw [nth_get h]; exact List.getElem_mem h
theorem all_iff_nth {α : Type} {l : List α} {p : α → Bool} (z : α) : l.all p = true ↔ ∀ i, i < l.length → p (nth l i z) = true := by
  rw [List.all_eq_true]
  constructor
  · intro h i hi
    rw [nth_get hi]; exact h _ (List.getElem_mem hi)
  · intro h x hx
    obtain ⟨i, hi, rfl⟩ := List.getElem_of_mem hx
    have := h i hi
    rwa [nth_get hi] at this
theorem range_all {n : Nat} {p : Nat → Bool} : (List.range n).all p = true ↔ ∀ i, i < n → p i = true := by
  rw [List.all_eq_true]; simp
/-! ### with 'from some number of rounds on' -/
theorem Ev.succ {α : Type} {g : Nat → Option α} {r : α} (h : Ev (fun k => g (k + 1)) r) : Ev g r := Ev.step (fun _ => rfl) h
theorem Ev.c {α : Type} {x : Option α} {r : α} (h : x = some r) : Ev (fun _ => x) r := ⟨0, fun _ _ => h⟩
theorem scanE {γ : Type} (n : Nat) (ok : Nat → Bool) (e bad : γ) (loop : Nat → Int → Option γ)
    (hs : ∀ (i : Nat) (r : γ), i < n → ok i = true → Ev (fun k => loop k ((i + 1 : Nat) : Int)) r → Ev (fun k => loop k (i : Int)) r)
    (hb : ∀ (i : Nat), i < n → ok i = false → Ev (fun k => loop k (i : Int)) bad)
    (he : Ev (fun k => loop k (n : Int)) e) : Ev (fun k => loop k 0) (if (List.range n).all ok = true then e else bad) := by
  have main : ∀ d (i : Nat), n - i = d → i ≤ n → Ev (fun k => loop k (i : Int)) (if (∀ j, i ≤ j → j < n → ok j = true) then e else bad) := by
    intro d
    induction d with
    | zero =>
      intro i hd hi
      have : i = n := by omega
      subst this
      rw [if_pos (fun j h1 h2 => by omega)]; exact he
    | succ d ih =>
      intro i hd hi
      cases ho : ok i with
      | true =>
        refine hs i _ (by omega) ho ?_
        have := ih (i + 1) (by omega) (by omega)
        by_cases hall : ∀ j, i ≤ j → j < n → ok j = true
        · rw [if_pos hall]; rwa [if_pos (fun j h1 h2 => hall j (by omega) h2)] at this
        · rw [if_neg hall]; rwa [if_neg (fun h => hall (fun j h1 h2 => by
            by_cases e : j = i
            · subst e; exact ho
            · exact h j (by omega) h2))] at this
      | false =>
        rw [if_neg (fun h => by have := h i (by omega) (by omega); rw [ho] at this; cases this)]
        exact hb i (by omega) ho
  have := main n 0 (by omega) (by omega)
  by_cases hall : ∀ j, 0 ≤ j → j < n → ok j = true
  · rw [if_pos hall] at this
    rw [if_pos (List.all_eq_true.2 (fun j hj => hall j (by omega) (by simpa using hj)))]
    exact this
  · rw [if_neg hall] at this
    rw [if_neg (fun h => hall (fun j _ h2 => List.all_eq_true.1 h j (by simpa using h2)))]
    exact this
/-- A loop with a state, over all places. -/
theorem foldE {σ γ : Type} (n : Nat) (f : Nat → σ → σ) (loop : Nat → σ → Int → Option γ) (r : σ → γ)
    (hs : ∀ (i : Nat) (s : σ) (q : γ), i < n → Ev (fun k => loop k (f i s) ((i + 1 : Nat) : Int)) q → Ev (fun k => loop k s (i : Int)) q)
    (he : ∀ s, Ev (fun k => loop k s (n : Int)) (r s)) (s : σ) : Ev (fun k => loop k s 0) (r ((List.range n).foldl (fun s i => f i s) s)) := by
  have main : ∀ d (i : Nat) (s : σ), n - i = d → i ≤ n → Ev (fun k => loop k s (i : Int)) (r ((List.range' i (n - i)).foldl (fun s i => f i s) s)) := by
    intro d
    induction d with
    | zero =>
      intro i s hd hi
      have : i = n := by omega
      subst this
      simpa using he s
    | succ d ih =>
      intro i s hd hi
      refine hs i s _ (by omega) ?_
      have := ih (i + 1) (f i s) (by omega) (by omega)
      rwa [show n - i = (n - (i + 1)) + 1 by omega, List.range'_succ, List.foldl_cons]
  have := main n 0 s (by omega) (by omega)
  rwa [Nat.sub_zero, ← List.range_eq_range'] at this
/-- As foldE, where what is reached so far stays within bounds. -/
theorem foldI {σ γ : Type} (n : Nat) (I : Nat → σ → Prop) (f : Nat → σ → σ) (loop : Nat → σ → Int → Option γ) (r : σ → γ)
    (hi : ∀ i s, i < n → I i s → I (i + 1) (f i s))
    (hs : ∀ (i : Nat) (s : σ) (q : γ), i < n → I i s → Ev (fun k => loop k (f i s) ((i + 1 : Nat) : Int)) q → Ev (fun k => loop k s (i : Int)) q)
    (he : ∀ s, I n s → Ev (fun k => loop k s (n : Int)) (r s)) (s : σ) (h0 : I 0 s) : Ev (fun k => loop k s 0) (r ((List.range n).foldl (fun s i => f i s) s)) ∧ I n ((List.range n).foldl (fun s i => f i s) s) := by
  have main : ∀ d (i : Nat) (s : σ), n - i = d → i ≤ n → I i s → Ev (fun k => loop k s (i : Int)) (r ((List.range' i (n - i)).foldl (fun s i => f i s) s)) ∧ I n ((List.range' i (n - i)).foldl (fun s i => f i s) s) := by
    intro d
    induction d with
    | zero =>
      intro i s hd hn hI
      have : i = n := by omega
      subst this
      simpa using And.intro (he s hI) hI
    | succ d ih =>
      intro i s hd hn hI
      have := ih (i + 1) (f i s) (by omega) (by omega) (hi i s (by omega) hI)
      rw [show n - i = (n - (i + 1)) + 1 by omega, List.range'_succ, List.foldl_cons]
      exact ⟨hs i s _ (by omega) hI this.1, this.2⟩
  have := main n 0 s (by omega) (by omega) h0
  rwa [Nat.sub_zero, ← List.range_eq_range'] at this
theorem stepI (n : Nat) (h : n < 4611686018427387904) : wrap64 ((n : Int) + 1) = ((n + 1 : Nat) : Int) := by
  rw [w64 (by omega)]
  rfl
theorem predI (n : Nat) (h : 1 ≤ n ∧ n < 4611686018427387904) : wrap64 ((n : Int) - 1) = ((n - 1 : Nat) : Int) := by
  rw [w64 (by omega)]
  omega
end Go.Proofs.YtcgpibbbkdhpeaaW.Pl

namespace Go.Proofs.Ytcgpibbbkdhpeaa.Q
open Go.RowKit Go.Proofs.YtcgpibbbkdhpeaaW.PrintWords Go.Proofs.YtcgpibbbkdhpeaaW.PrintLast Go.Proofs.YtcgpibbbkdhpeaaW.PrintMore
set_option linter.unusedVariables false
set_option linter.unusedSimpArgs false

end Go.Proofs.Ytcgpibbbkdhpeaa.Q
namespace Go.Proofs.Ytcgpibbbkdhpeaa.Q
open Go.RowKit Go.Proofs.YtcgpibbbkdhpeaaW.PrintWords Go.Proofs.YtcgpibbbkdhpeaaW.PrintLast Go.Proofs.YtcgpibbbkdhpeaaW.PrintMore
set_option linter.unusedVariables false
set_option linter.unusedSimpArgs false

end Go.Proofs.Ytcgpibbbkdhpeaa.Q
namespace Go.Proofs.Ytcgpibbbkdhpeaa.Q
open Go.RowKit Go.Proofs.YtcgpibbbkdhpeaaW.PrintWords Go.Proofs.YtcgpibbbkdhpeaaW.PrintLast Go.Proofs.YtcgpibbbkdhpeaaW.PrintMore
set_option linter.unusedVariables false
set_option linter.unusedSimpArgs false

end Go.Proofs.Ytcgpibbbkdhpeaa.Q
namespace Go.Proofs.Ytcgpibbbkdhpeaa.Q
open Go.RowKit Go.Proofs.YtcgpibbbkdhpeaaW.PrintWords Go.Proofs.YtcgpibbbkdhpeaaW.PrintLast Go.Proofs.YtcgpibbbkdhpeaaW.PrintMore
set_option linter.unusedVariables false
set_option linter.unusedSimpArgs false

end Go.Proofs.Ytcgpibbbkdhpeaa.Q
namespace Go.Proofs.Ytcgpibbbkdhpeaa.Q
open Go.RowKit Go.Proofs.YtcgpibbbkdhpeaaW.PrintWords Go.Proofs.YtcgpibbbkdhpeaaW.PrintLast Go.Proofs.YtcgpibbbkdhpeaaW.PrintMore
set_option linter.unusedVariables false
set_option linter.unusedSimpArgs false

/-! ### laws_vBig: function 38 -/
def laws_vBig.f (l0 : List Int) : Option (Bool) := some (decide ((l0.length : Int) > 65536))
set_option maxHeartbeats 8000000 in
set_option maxRecDepth 100000 in
theorem laws_vBig.calls (A0 : Option Addr) (c0 : Nat) (l0 : List Int) (r : Bool) (w : World) (hr0 : Kd.C (Kd.int .u8) w A0 l0.length l0) (hc0 : l0.length ≤ c0) (h : laws_vBig.f l0 = some r) :
  Calls Try.prog 38 #[.slice A0 l0.length c0] w fun e w' => e = .returned (.bool r) ∧ Drawn0 w w' := by
 have HR0 := Aside0.mk hr0
 have HC0 := Aside0.mk hc0
 clear hr0 hc0
 have H : (some (decide ((l0.length : Int) > 65536))) = some r := h
 clear h
 obtain rfl := Option.some.inj H
 go_enter Try.func38, Try.ntmps38
 go_wp2
 go_ret
 exact ⟨by first | rfl | (simp; done) | (simp [*]; done), by repeat (first | exact Drawn0.refl _ | apply Drawn0.step)⟩

end Go.Proofs.Ytcgpibbbkdhpeaa.Q
namespace Go.Proofs.Ytcgpibbbkdhpeaa.Q
open Go.RowKit Go.Proofs.YtcgpibbbkdhpeaaW.PrintWords Go.Proofs.YtcgpibbbkdhpeaaW.PrintLast Go.Proofs.YtcgpibbbkdhpeaaW.PrintMore
set_option linter.unusedVariables false
set_option linter.unusedSimpArgs false

/-! ### laws_vInts: function 40 -/
def laws_vInts.l0 : Nat → List Int → List Int → Int → Option (Bool)
 | 0, _, _, _ => none
 | k + 1, x0, x1, x5 => if x5 < (x0.length : Int) then (if 0 ≤ x5 then (if x5 < (x1.length : Int) then (if (rd x0 x5) = (rd x1 x5) then (laws_vInts.l0 k x0 x1 (wrap64 (x5 + 1))) else (some false)) else (none)) else (none)) else (some true)
def laws_vInts.f (k : Nat) (l0 : List Int) (l1 : List Int) : Option (Bool) := if (l0.length : Int) = (l1.length : Int) then (laws_vInts.l0 k l0 l1 0) else (some false)
set_option maxHeartbeats 8000000 in
set_option maxRecDepth 100000 in
theorem laws_vInts.calls (k : Nat) (A0 : Option Addr) (c0 : Nat) (l0 : List Int) (A1 : Option Addr) (c1 : Nat) (l1 : List Int) (r : Bool) (w : World) (hr0 : Kd.C (Kd.int .i64) w A0 l0.length l0) (hc0 : l0.length ≤ c0) (hr1 : Kd.C (Kd.int .i64) w A1 l1.length l1) (hc1 : l1.length ≤ c1) (h : laws_vInts.f k l0 l1 = some r) :
  Calls Try.prog 40 #[.slice A0 l0.length c0, .slice A1 l1.length c1] w fun e w' => e = .returned (.bool r) ∧ Drawn0 w w' := by
 have HR0 := Aside0.mk hr0
 have HC0 := Aside0.mk hc0
 clear hr0 hc0
 have HR1 := Aside0.mk hr1
 have HC1 := Aside0.mk hc1
 clear hr1 hc1
 have H : (if (l0.length : Int) = (l1.length : Int) then (laws_vInts.l0 k l0 l1 0) else (some false)) = some r := h
 clear h
 by_cases c3 : (l0.length : Int) = (l1.length : Int)
 ·rw [if_pos c3] at H
  have c3b0 : ((l0.length : Int) == (l1.length : Int)) = true := beq_iff_eq.mpr c3
  have c3b1 : ((l0.length : Int) != (l1.length : Int)) = false := bne_eq_false_iff_eq.mpr c3
  have c3b2 : (l0.length == l1.length) = true := by first | simpa using c3 | (simp at c3 ⊢; omega)
  clear c3
  have H' := Aside0.mk H
  clear H
  go_enter Try.func40, Try.ntmps40
  go_wp2
  repeat (go_quiet (fail); try go_wp2)
  go_loopg [5] k (fun kq v5 w' => ∃ (x5_1 : Int), v5 = .int .i64 x5_1 ∧ Aside0 (laws_vInts.l0 kq l0 l1 x5_1 = some r) ∧ Aside0 (kq ≤ k) ∧ Drawn0 w w')
  case atStart => exact ⟨(0), (by first | rfl | (simp; done) | (simp [*]; done)), H', ⟨Nat.le_refl _⟩, by repeat (first | exact Drawn0.refl _ | apply Drawn0.step)⟩
  case round =>
   clear H'
   try clear c1
   try clear p2
   try clear c3
   try clear c3b0
   try clear c3b1
   try clear c3b2
   obtain ⟨x5_1, rfl, HA, HK1, ⟨m1, rfl⟩⟩ := hrel
   cases gk with
   | zero => exact absurd HA.out (by simp [laws_vInts.l0])
   | succ k1 =>
    have H := HA.out
    clear HA
    simp only [laws_vInts.l0] at H
    by_cases c4 : x5_1 < (l0.length : Int)
    ·rw [if_pos c4] at H
     have c4b0 : decide (x5_1 < (l0.length : Int)) = true := decide_eq_true c4
     clear c4
     by_cases c5 : 0 ≤ x5_1
     ·rw [if_pos c5] at H
      have c5b0 : decide (0 ≤ x5_1) = true := decide_eq_true c5
      clear c5
      by_cases c6 : x5_1 < (l1.length : Int)
      ·rw [if_pos c6] at H
       have c6b0 : decide (x5_1 < (l1.length : Int)) = true := decide_eq_true c6
       clear c6
       by_cases c7 : (rd l0 x5_1) = (rd l1 x5_1)
       ·rw [if_pos c7] at H
        have c7b0 : ((rd l0 x5_1) == (rd l1 x5_1)) = true := beq_iff_eq.mpr c7
        have c7b1 : ((rd l0 x5_1) != (rd l1 x5_1)) = false := bne_eq_false_iff_eq.mpr c7
        clear c7
        have H' := Aside0.mk H
        clear H
        have p391 : 0 ≤ (x5_1 : Int) := of_decide_eq_true (by first | (with_reducible assumption) | assumption)
        have q391 : x5_1 < (l0.length : Int) := of_decide_eq_true (by first | (with_reducible assumption) | assumption)
        obtain ⟨ad391, e391, hx391_0⟩ := Kd.at_int HR0.out x5_1 p391 q391
        cases e391
        replace p391 := eq_true p391
        replace q391 := eq_true q391
        have p392 : 0 ≤ (x5_1 : Int) := of_decide_eq_true (by first | (with_reducible assumption) | assumption)
        have q392 : x5_1 < (l1.length : Int) := of_decide_eq_true (by first | (with_reducible assumption) | assumption)
        obtain ⟨ad392, e392, hx392_0⟩ := Kd.at_int HR1.out x5_1 p392 q392
        cases e392
        replace p392 := eq_true p392
        replace q392 := eq_true q392
        go_wp2
        repeat (go_quiet (fail); try go_wp2)
        go_roundg k1
        case measure => have := HK1.out; omega
        case rel => exact ⟨(wrap64 (x5_1 + 1)), (by first | rfl | (simp; done) | (simp [*]; done)), H', ⟨by have := HK1.out; omega⟩, by repeat (first | exact Drawn0.refl _ | apply Drawn0.step)⟩
       ·rw [if_neg c7] at H
        have c7b0 : ((rd l0 x5_1) == (rd l1 x5_1)) = false := beq_eq_false_iff_ne.mpr c7
        have c7b1 : ((rd l0 x5_1) != (rd l1 x5_1)) = true := bne_iff_ne.mpr c7
        obtain rfl := Option.some.inj H
        have p391 : 0 ≤ (x5_1 : Int) := of_decide_eq_true (by first | (with_reducible assumption) | assumption)
        have q391 : x5_1 < (l0.length : Int) := of_decide_eq_true (by first | (with_reducible assumption) | assumption)
        obtain ⟨ad391, e391, hx391_0⟩ := Kd.at_int HR0.out x5_1 p391 q391
        cases e391
        replace p391 := eq_true p391
        replace q391 := eq_true q391
        have p392 : 0 ≤ (x5_1 : Int) := of_decide_eq_true (by first | (with_reducible assumption) | assumption)
        have q392 : x5_1 < (l1.length : Int) := of_decide_eq_true (by first | (with_reducible assumption) | assumption)
        obtain ⟨ad392, e392, hx392_0⟩ := Kd.at_int HR1.out x5_1 p392 q392
        cases e392
        replace p392 := eq_true p392
        replace q392 := eq_true q392
        go_wp2
        repeat (go_quiet (fail); try go_wp2)
        go_ret
        exact ⟨by first | rfl | (simp; done) | (simp [*]; done), by repeat (first | exact Drawn0.refl _ | apply Drawn0.step)⟩
      ·rw [if_neg c6] at H
       exact absurd H (by simp)
     ·rw [if_neg c5] at H
      exact absurd H (by simp)
    ·rw [if_neg c4] at H
     have c4b0 : decide (x5_1 < (l0.length : Int)) = false := decide_eq_false c4
     clear c4
     obtain rfl := Option.some.inj H
     go_wp2
     repeat (go_quiet (fail); try go_wp2)
     go_ret
     exact ⟨by first | rfl | (simp; done) | (simp [*]; done), by repeat (first | exact Drawn0.refl _ | apply Drawn0.step)⟩
 ·rw [if_neg c3] at H
  have c3b0 : ((l0.length : Int) == (l1.length : Int)) = false := beq_eq_false_iff_ne.mpr c3
  have c3b1 : ((l0.length : Int) != (l1.length : Int)) = true := bne_iff_ne.mpr c3
  have c3b2 : (l0.length == l1.length) = false := by first | simpa using c3 | (simp at c3 ⊢; omega)
  obtain rfl := Option.some.inj H
  go_enter Try.func40, Try.ntmps40
  go_wp2
  repeat (go_quiet (fail); try go_wp2)
  go_ret
  exact ⟨by first | rfl | (simp; done) | (simp [*]; done), by repeat (first | exact Drawn0.refl _ | apply Drawn0.step)⟩

end Go.Proofs.Ytcgpibbbkdhpeaa.Q
namespace Go.Proofs.Ytcgpibbbkdhpeaa.Q
open Go.RowKit Go.Proofs.YtcgpibbbkdhpeaaW.PrintWords Go.Proofs.YtcgpibbbkdhpeaaW.PrintLast Go.Proofs.YtcgpibbbkdhpeaaW.PrintMore
set_option linter.unusedVariables false
set_option linter.unusedSimpArgs false

/-! ### impl_AreJobs_1: function 52 -/
def impl_AreJobs_1.f (a0_0 : Int) (a0_1 : Int) (a0_2 : Int) (a0_3 : Int) (a0_4 : Int) : Option (Int) := some a0_0
set_option maxHeartbeats 8000000 in
set_option maxRecDepth 100000 in
theorem impl_AreJobs_1.calls (a0_0 : Int) (a0_1 : Int) (a0_2 : Int) (a0_3 : Int) (a0_4 : Int) (r : Int) (w : World) (h : impl_AreJobs_1.f a0_0 a0_1 a0_2 a0_3 a0_4 = some r) :
  Calls Try.prog 52 #[.agg #[.int .i64 a0_0, .int .i64 a0_1, .int .i64 a0_2, .int .i64 a0_3, .int .i64 a0_4]] w fun e w' => e = .returned (.int .i64 r) ∧ Below w.heap.size w w' := by
 have hu51 := Try.underlying51
 have HB := Aside0.mk (Below.refl w.heap.size w)
 have H : (some a0_0) = some r := h
 clear h
 obtain rfl := Option.some.inj H
 go_enter Try.func52, Try.ntmps52
 go_wp2_with (first | ((with_reducible refine gate_dst (N := 1) rfl ?_); refine box_event ?hg (N := 1) ?hd (cs := #[.int .i64 a0_0, .int .i64 a0_1, .int .i64 a0_2, .int .i64 a0_3, .int .i64 a0_4]) (t := 51) ?hr ?_; (case hd => rfl); (case hg => rfl); (case hr => first | (go_simp; done) | (go_simp; rfl)); intro gb217 hg w2 hbox hb; have n0_ := Aside0.mk (below_step (by repeat (first | (with_reducible first | exact HB.out | apply below_alloc | apply pw_below_drewN | apply below_drew1) | exact HB.out)) hb); have n1_ := Aside0.mk (hbox); have n2_ := Aside0.mk ((by rw [hg]; exact (below_size (by repeat (first | (with_reducible first | exact HB.out | apply below_alloc | apply pw_below_drewN | apply below_drew1) | exact HB.out))) : w.heap.size ≤ gb217)); have n3_ := Aside0.mk ((by rw [hg]; exact (below_size (by repeat (first | (with_reducible first | exact HB.out | apply below_alloc | apply pw_below_drewN | apply below_drew1) | exact HB.out))) : w.heap.size ≤ gb217)); clear HB; have HB := n0_; have BK217 := n1_; have GW217 := n2_; have GE217 := n3_; clear n0_ n1_ n2_ n3_; clear hb hbox hg; have hcz3_0 : w2.cell? ⟨gb217, 0, none⟩ = some (.int .i64 a0_0) := (blk_cell BK217.out 0).trans rfl; have hcz3_1 : w2.cell? ⟨gb217, 1, none⟩ = some (.int .i64 a0_1) := (blk_cell BK217.out 1).trans rfl; have hcz3_2 : w2.cell? ⟨gb217, 2, none⟩ = some (.int .i64 a0_2) := (blk_cell BK217.out 2).trans rfl; have hcz3_3 : w2.cell? ⟨gb217, 3, none⟩ = some (.int .i64 a0_3) := (blk_cell BK217.out 3).trans rfl; have hcz3_4 : w2.cell? ⟨gb217, 4, none⟩ = some (.int .i64 a0_4) := (blk_cell BK217.out 4).trans rfl; have hfz3_0 := blk_frozen BK217.out 0; have hfz3_1 := blk_frozen BK217.out 1; have hfz3_2 := blk_frozen BK217.out 2; have hfz3_3 := blk_frozen BK217.out 3; have hfz3_4 := blk_frozen BK217.out 4))
 go_ret
 exact ⟨by first | rfl | (simp [errW_none, errW_some] <;> rfl) | (simp [*, errW_none, errW_some] <;> rfl) | (simp [wrap64]; done), by repeat (first | (with_reducible first | exact HB.out | apply below_alloc | apply pw_below_drewN | apply below_drew1 | refine below_set ?_ GE217.out) | exact HB.out)⟩

end Go.Proofs.Ytcgpibbbkdhpeaa.Q
namespace Go.Proofs.Ytcgpibbbkdhpeaa.Q
open Go.RowKit Go.Proofs.YtcgpibbbkdhpeaaW.PrintWords Go.Proofs.YtcgpibbbkdhpeaaW.PrintLast Go.Proofs.YtcgpibbbkdhpeaaW.PrintMore
set_option linter.unusedVariables false
set_option linter.unusedSimpArgs false

/-! ### impl_in: function 62 -/
def impl_in.f (a0 : Int) (a1 : Int) (a2 : Int) : Option (Bool) := if a0 ≥ a1 then (some (decide (a0 ≤ a2))) else (some false)
set_option maxHeartbeats 8000000 in
set_option maxRecDepth 100000 in
theorem impl_in.calls (a0 : Int) (a1 : Int) (a2 : Int) (r : Bool) (w : World) (h : impl_in.f a0 a1 a2 = some r) :
  Calls Try.prog 62 #[.int .i64 a0, .int .i64 a1, .int .i64 a2] w fun e w' => e = .returned (.bool r) ∧ Drawn0 w w' := by
 have H : (if a0 ≥ a1 then (some (decide (a0 ≤ a2))) else (some false)) = some r := h
 clear h
 by_cases c4 : a0 ≥ a1
 ·rw [if_pos c4] at H
  have c4b0 : decide (a1 ≤ a0) = true := decide_eq_true c4
  clear c4
  obtain rfl := Option.some.inj H
  go_enter Try.func62, Try.ntmps62
  go_wp2
  go_ret
  exact ⟨by first | rfl | (simp; done) | (simp [*]; done), by repeat (first | exact Drawn0.refl _ | apply Drawn0.step)⟩
 ·rw [if_neg c4] at H
  have c4b0 : decide (a1 ≤ a0) = false := decide_eq_false c4
  clear c4
  obtain rfl := Option.some.inj H
  go_enter Try.func62, Try.ntmps62
  go_wp2
  go_ret
  exact ⟨by first | rfl | (simp; done) | (simp [*]; done), by repeat (first | exact Drawn0.refl _ | apply Drawn0.step)⟩

end Go.Proofs.Ytcgpibbbkdhpeaa.Q
namespace Go.Proofs.Ytcgpibbbkdhpeaa.Q
open Go.RowKit Go.Proofs.YtcgpibbbkdhpeaaW.PrintWords Go.Proofs.YtcgpibbbkdhpeaaW.PrintLast Go.Proofs.YtcgpibbbkdhpeaaW.PrintMore
set_option linter.unusedVariables false
set_option linter.unusedSimpArgs false

/-! ### impl_isJobWide: function 83 -/
def impl_isJobWide.f (a0 : Int) : Option (Bool) := (impl_in.f a0 1 500).bind fun t209 => (some t209)
set_option maxHeartbeats 8000000 in
set_option maxRecDepth 100000 in
theorem impl_isJobWide.calls (a0 : Int) (r : Bool) (w : World) (h : impl_isJobWide.f a0 = some r) :
  Calls Try.prog 83 #[.int .i64 a0] w fun e w' => e = .returned (.bool r) ∧ Drawn0 w w' := by
 have H : ((impl_in.f a0 1 500).bind fun t209 => (some t209)) = some r := h
 clear h
 replace H := Option.bind_eq_some_iff.mp H
 obtain ⟨t209, A20, H⟩ := H
 have A2 := Aside0.mk A20
 clear A20
 obtain rfl := Option.some.inj H
 go_enter Try.func83, Try.ntmps83
 go_wp2_with (first | ((with_reducible refine gate_callee (f := 62) rfl ?_); refine goesL_ (some 4) rfl rfl Try.func62 (by kernel_rfl) rfl #[.int .i64 a0, .int .i64 1, .int .i64 500] rfl (by (try simp only [List.map_toArray, List.map_cons, List.map_nil]); first | done | rfl | (simp only [List.length_drop, List.length_take]; rfl)) ?_; (with_reducible refine (impl_in.calls a0 1 500 t209 _ A2.out).mono ?_); rintro e w' ⟨rfl, ⟨nd, rfl⟩⟩; refine ⟨_, rfl, ?_⟩))
 go_ret
 exact ⟨by first | rfl | (simp; done) | (simp [*]; done), by repeat (first | exact Drawn0.refl _ | apply Drawn0.step)⟩

end Go.Proofs.Ytcgpibbbkdhpeaa.Q
namespace Go.Proofs.Ytcgpibbbkdhpeaa.Q
open Go.RowKit Go.Proofs.YtcgpibbbkdhpeaaW.PrintWords Go.Proofs.YtcgpibbbkdhpeaaW.PrintLast Go.Proofs.YtcgpibbbkdhpeaaW.PrintMore
set_option linter.unusedVariables false
set_option linter.unusedSimpArgs false

/-! ### IndexFunc_96: function 96 -/
set_option maxHeartbeats 2000000 in
set_option maxRecDepth 100000 in
theorem idx_96 (g : Nat) (lb : Array Value) (eg : ∀ args w, (callFunc g args).run Try.prog w = .ok (.enter g args) w) (p : Int → Bool) (A : Option Addr) (c : Nat) (l : List Int) (w : World) (hr : Kd.C (Kd.int .i64) w A l.length l)
  (hp : ∀ x, x ∈ l → ∀ W cs, Below w.heap.size w W → ((Kd.int .i64)).K W x cs → Calls Try.prog g (#[cs[0]!] ++ lb) W fun e W' => e = .returned (.bool (p x)) ∧ Below W.heap.size W W') :
  Calls Try.prog 96 #[.slice A l.length c, .func (.func g) #[] lb] w fun e w' => e = .returned (.int .i64 (idx p l)) ∧ Below w.heap.size w w' := by
 have hn := hr.2.1
 go_enter Try.func96, Try.ntmps96
 go_wp2
 go_loopg [5, 8] l.length (fun gg _ s8 wr => ∃ kk : Nat, kk ≤ l.length ∧ l.length - kk ≤ gg ∧ s8 = .int .i64 kk ∧ Aside0 (Below w.heap.size w wr) ∧ Aside0 (∀ j (hj : j < kk) (h2 : j < l.length), p (l[j]) = false))
 case atStart => exact ⟨0, Nat.zero_le _, by omega, rfl, Aside0.mk (Below.refl _ w), Aside0.mk (fun j hj => absurd hj (Nat.not_lt_zero _))⟩
 case round =>
  obtain ⟨kk, hkk, hg, rfl, BW, AA⟩ := hrel
  by_cases hlt : kk < l.length
  ·have hltz : (kk : Int) < (l.length : Int) := by omega
   have hC := Kd.C_below hr BW.out
   obtain ⟨ad, cs, rfl, hcl, hK, hcell⟩ := Kd.C_get hC 0 (kk : Int) (by omega) (by omega)
   have hel : l.getD (kk : Int).toNat 0 = l[kk] := by simp [List.getD, hlt]
   rw [hel] at hK
   have hcell' : ∀ j u, cs[j]? = some u → wr.cell? (ad.add (kk * 1 + j)) = some u := hcell
   have hcall := hp (l[kk]) (List.getElem_mem hlt) wr cs BW.out hK
   have hK_ := hK
   obtain rfl : cs = [.int .i64 (l[kk])] := hK_
   have hh0 : wr.cell? (ad.add kk) = some (.int .i64 (l[kk])) := by simpa using hcell' 0 _ rfl
   replace hcall : Calls Try.prog g (#[.int .i64 (l[kk])] ++ lb) wr _ := hcall
   have HP := Aside0.mk hp
   have HC := Aside0.mk hC
   have HK := Aside0.mk hK
   clear hp hC hel hcell hcell' hK hcl
   cases hq : p (l[kk]) with
   | true =>
    rw [hq] at hcall
    have HQ := Aside0.mk hq
    clear hq
    go_wp2_with (go_at_fn g; refine hcall.mono ?_; rintro e w' ⟨rfl, hb'⟩)
    go_ret
    refine ⟨?_, BW.out.trans (hb'.mono BW.out.size)⟩
    rw [idx_hit hlt HQ.out (fun j hj => AA.out j hj (by omega))]
    rfl
   | false =>
    rw [hq] at hcall
    have HQ := Aside0.mk hq
    clear hq
    go_wp2_with (go_at_fn g; refine hcall.mono ?_; rintro e w' ⟨rfl, hb'⟩)
    go_roundg (l.length - (kk + 1))
    case measure => omega
    case rel =>
     refine ⟨kk + 1, by omega, by omega, by go_num, Aside0.mk (BW.out.trans (hb'.mono BW.out.size)), Aside0.mk (fun j hj h2 => ?_)⟩
     by_cases e : j = kk
     ·subst e
      exact HQ.out
     ·exact AA.out j (by omega) h2
  ·have hltz : ¬ (kk : Int) < (l.length : Int) := by omega
   have HK : kk = l.length := by omega
   have HK2 := Aside0.mk HK
   clear HK
   go_wp2
   go_ret
   refine ⟨?_, BW.out⟩
   rw [idx_miss (fun j hj => AA.out j (by have := HK2.out; omega) hj)]
   rfl
set_option maxHeartbeats 2000000 in
theorem con_94 (g : Nat) (lb : Array Value) (eg : ∀ args w, (callFunc g args).run Try.prog w = .ok (.enter g args) w) (p : Int → Bool) (A : Option Addr) (c : Nat) (l : List Int) (w : World) (hr : Kd.C (Kd.int .i64) w A l.length l)
  (hp : ∀ x, x ∈ l → ∀ W cs, Below w.heap.size w W → ((Kd.int .i64)).K W x cs → Calls Try.prog g (#[cs[0]!] ++ lb) W fun e W' => e = .returned (.bool (p x)) ∧ Below W.heap.size W W') :
  Calls Try.prog 94 #[.slice A l.length c, .func (.func g) #[] lb] w fun e w' => e = .returned (.bool (l.any p)) ∧ Below w.heap.size w w' := by
 rw [← idx_nonneg]
 go_enter Try.func94, Try.ntmps94
 go_wp2_with (go_at_call 96; refine (idx_96 g lb eg p A c l _ hr hp).mono ?_; rintro e w' ⟨rfl, hb'⟩)
 go_ret
 exact ⟨rfl, hb'⟩

end Go.Proofs.Ytcgpibbbkdhpeaa.Q
namespace Go.Proofs.Ytcgpibbbkdhpeaa.Q
open Go.RowKit Go.Proofs.YtcgpibbbkdhpeaaW.PrintWords Go.Proofs.YtcgpibbbkdhpeaaW.PrintLast Go.Proofs.YtcgpibbbkdhpeaaW.PrintMore
set_option linter.unusedVariables false
set_option linter.unusedSimpArgs false

/-! ### areAll_85: function 85 -/
set_option maxHeartbeats 2000000 in
theorem clo_95 (g : Nat) (eg : ∀ args w, (callFunc g args).run Try.prog w = .ok (.enter g args) w) (b : Nat) (x : Int) (cs : List Value) (q : Bool) (w : World) (hb : w.cell? ⟨b, 0, none⟩ = some (.func (.func g) #[] #[])) (hlt : b < w.heap.size)
  (hk : ((Kd.int .i64)).K w x cs)
  (hq : ∀ W, Below w.heap.size w W → Calls Try.prog g #[cs[0]!] W fun e W' => e = .returned (.bool q) ∧ Below W.heap.size W W') :
  Calls Try.prog 95 #[cs[0]!, .pointer (some ⟨b, 0, none⟩)] w fun e w' => e = .returned (.bool (!q)) ∧ Below w.heap.size w w' := by
 obtain rfl : cs = [.int .i64 x] := hk
 replace hq : ∀ W, Below w.heap.size w W → Calls Try.prog g #[.int .i64 x] W fun e W' => e = .returned (.bool q) ∧ Below W.heap.size W W' := hq
 show Calls Try.prog 95 #[.int .i64 x, .pointer (some ⟨b, 0, none⟩)] w _
 have HQ := Aside0.mk hq
 skip
 clear hq
 go_enter Try.func95, Try.ntmps95
 go_wp2_with (go_at_fn g; refine (HQ.out _ (Below.refl _ _)).mono ?_; rintro e w' ⟨rfl, hb'⟩)
 go_ret
 exact ⟨rfl, hb'⟩
set_option maxHeartbeats 2000000 in
theorem all_85 (g : Nat) (eg : ∀ args w, (callFunc g args).run Try.prog w = .ok (.enter g args) w) (p : Int → Bool) (A : Option Addr) (c : Nat) (l : List Int) (w : World) (hr : Kd.C (Kd.int .i64) w A l.length l)
  (hp : ∀ x, x ∈ l → ∀ W cs, Below w.heap.size w W → ((Kd.int .i64)).K W x cs → Calls Try.prog g #[cs[0]!] W fun e W' => e = .returned (.bool (p x)) ∧ Below W.heap.size W W') :
  Calls Try.prog 85 #[.slice A l.length c, .func (.func g) #[] #[]] w fun e w' => e = .returned (.bool (l.all p)) ∧ Below w.heap.size w w' := by
 have hall : l.all p = !(l.any fun x => !p x) := by simp [List.not_any_eq_all_not]
 rw [hall]
 have HH := Aside0.mk hall
 clear hall
 have ha : Below w.heap.size w (w.alloc (.cells #[.func (.func g) #[] #[]] 86)) := (Below.refl _ _).alloc (Nat.le_refl _) _
 have HA := Aside0.mk ha
 clear ha
 have ec : ∀ args w, (callFunc 95 args).run Try.prog w = .ok (.enter 95 args) w := enters_of Try.func95 (by kernel_rfl) rfl
 have hcon := con_94 95 #[.pointer (some ⟨w.heap.size, 0, none⟩)] ec (fun x => !p x) A c l (w.alloc (.cells #[.func (.func g) #[] #[]] 86)) (Kd.C_below hr HA.out) (fun x hx W cs hb hk => by
  have hcell : W.cell? ⟨w.heap.size, 0, none⟩ = some (.func (.func g) #[] #[]) := by
   rw [hb.cell (p := ⟨w.heap.size, 0, none⟩) (by simp)]
   simp
  exact clo_95 g eg w.heap.size x cs (p x) W hcell (by have := hb.size; simp at this; omega) hk (fun W' hW' => hp x hx W' cs (HA.out.trans ((hb.mono (by simp)).trans (hW'.mono (by have := hb.size; simp at this; omega)))) (Kd.K_below _ hW' hk)))
 have HC := Aside0.mk hcon
 clear hcon hp
 go_enter Try.func85, Try.ntmps85
 go_wp2_with (go_at_call 94; refine HC.out.mono ?_; rintro e w' ⟨rfl, hb'⟩)
 go_ret
 exact ⟨rfl, HA.out.trans (hb'.mono (by simp))⟩

end Go.Proofs.Ytcgpibbbkdhpeaa.Q
namespace Go.Proofs.Ytcgpibbbkdhpeaa.Q
open Go.RowKit Go.Proofs.YtcgpibbbkdhpeaaW.PrintWords Go.Proofs.YtcgpibbbkdhpeaaW.PrintLast Go.Proofs.YtcgpibbbkdhpeaaW.PrintMore
set_option linter.unusedVariables false
set_option linter.unusedSimpArgs false

/-! ### impl_areAll_int__impl_isJobWide: function 1000085 -/
def impl_areAll_int__impl_isJobWide.f (l : List Int)  : Option Bool := (l.mapM (fun x : Int => impl_isJobWide.f x)).map (fun bs => bs.all id)
theorem impl_areAll_int__impl_isJobWide.calls (A0 : Option Addr) (c0 : Nat) (l0 : List Int)  (r : Bool) (w : World) (hr0 : Kd.C (Kd.int .i64) w A0 l0.length l0) (hc0 : l0.length ≤ c0)  (h : impl_areAll_int__impl_isJobWide.f l0  = some r) :
  Calls Try.prog 85 #[.slice A0 l0.length c0, .func (.func 83) #[] #[]] w fun e w' => e = .returned (.bool r) ∧ Below w.heap.size w w' := by
 obtain ⟨p, hp, rfl⟩ := all_pred h
 refine all_85 83 (enters_of Try.func83 (by kernel_rfl) rfl) p A0 c0 l0 w hr0 (fun x hx W cs hb hk => ?_)
 obtain rfl : cs = [.int .i64 x] := hk
 exact (impl_isJobWide.calls (r := p x) (w := W) (h := hp x hx)).mono fun e w' hh => ⟨hh.1, hh.2.below⟩

end Go.Proofs.Ytcgpibbbkdhpeaa.Q
namespace Go.Proofs.Ytcgpibbbkdhpeaa.Q
open Go.RowKit Go.Proofs.YtcgpibbbkdhpeaaW.PrintWords Go.Proofs.YtcgpibbbkdhpeaaW.PrintLast Go.Proofs.YtcgpibbbkdhpeaaW.PrintMore
set_option linter.unusedVariables false
set_option linter.unusedSimpArgs false

/-! ### impl_areJobLooms: function 56 -/
def impl_areJobLooms.f (l0 : List Int) : Option (Bool) := (impl_in.f (l0.length : Int) 1 3).bind fun t224 => (if t224 = true then ((impl_areAll_int__impl_isJobWide.f l0).bind fun t225 => (some t225)) else (some false))
set_option maxHeartbeats 8000000 in
set_option maxRecDepth 100000 in
theorem impl_areJobLooms.calls (A0 : Option Addr) (c0 : Nat) (l0 : List Int) (r : Bool) (w : World) (hr0 : Kd.C (Kd.int .i64) w A0 l0.length l0) (hc0 : l0.length ≤ c0) (h : impl_areJobLooms.f l0 = some r) :
  Calls Try.prog 56 #[.slice A0 l0.length c0] w fun e w' => e = .returned (.bool r) ∧ Below w.heap.size w w' := by
 have HR0 := Aside0.mk hr0
 have HC0 := Aside0.mk hc0
 clear hr0 hc0
 have HB := Aside0.mk (Below.refl w.heap.size w)
 have H : ((impl_in.f (l0.length : Int) 1 3).bind fun t224 => (if t224 = true then ((impl_areAll_int__impl_isJobWide.f l0).bind fun t225 => (some t225)) else (some false))) = some r := h
 clear h
 replace H := Option.bind_eq_some_iff.mp H
 obtain ⟨t224, A20, H⟩ := H
 have A2 := Aside0.mk A20
 clear A20
 by_cases c3 : t224 = true
 ·subst c3
  rw [if_pos rfl] at H
  replace H := Option.bind_eq_some_iff.mp H
  obtain ⟨t225, A40, H⟩ := H
  have A4 := Aside0.mk A40
  clear A40
  obtain rfl := Option.some.inj H
  go_enter Try.func56, Try.ntmps56
  go_wp2_with (first | ((with_reducible refine gate_callee (f := 62) rfl ?_); refine goesL_ (some 5) rfl rfl Try.func62 (by kernel_rfl) rfl #[.int .i64 (l0.length : Int), .int .i64 1, .int .i64 3] rfl (by (try simp only [List.map_toArray, List.map_cons, List.map_nil]); first | done | rfl | (simp only [List.length_drop, List.length_take]; rfl)) ?_; (with_reducible refine (impl_in.calls (l0.length : Int) 1 3 true _ A2.out).mono ?_); rintro e w' ⟨rfl, ⟨nd, rfl⟩⟩; refine ⟨_, rfl, ?_⟩) | (go_at_call 85; (with_reducible refine (impl_areAll_int__impl_isJobWide.calls _ _ l0  t225 _ ?side1 ?side2 A4.out).mono ?_); (case side1 => repeat (first | exact HR0.out | (with_reducible refine Kd.C_alloc ?_ _) | (with_reducible refine Kd.C_drewN ?_ _) | (with_reducible refine Kd.C_drew ?_))); (case side2 => exact HC0.out); rintro e w5 ⟨rfl, hb⟩; have n0_ := Aside0.mk (below_step (by repeat (first | (with_reducible first | exact HB.out | apply below_alloc | apply pw_below_drewN | apply below_drew1) | exact HB.out)) hb); clear HB; have HB := n0_; clear n0_; (try clear hb); (try clear hb2); (try clear hk); (try clear hi)))
  go_ret
  exact ⟨by first | rfl | (simp [errW_none, errW_some] <;> rfl) | (simp [*, errW_none, errW_some] <;> rfl) | (simp [wrap64]; done), by repeat (first | (with_reducible first | exact HB.out | apply below_alloc | apply pw_below_drewN | apply below_drew1) | exact HB.out)⟩
 ·replace c3 := Bool.eq_false_iff.mpr c3
  subst c3
  rw [if_neg (show ¬ (false = true) by decide)] at H
  obtain rfl := Option.some.inj H
  go_enter Try.func56, Try.ntmps56
  go_wp2_with (first | ((with_reducible refine gate_callee (f := 62) rfl ?_); refine goesL_ (some 5) rfl rfl Try.func62 (by kernel_rfl) rfl #[.int .i64 (l0.length : Int), .int .i64 1, .int .i64 3] rfl (by (try simp only [List.map_toArray, List.map_cons, List.map_nil]); first | done | rfl | (simp only [List.length_drop, List.length_take]; rfl)) ?_; (with_reducible refine (impl_in.calls (l0.length : Int) 1 3 false _ A2.out).mono ?_); rintro e w' ⟨rfl, ⟨nd, rfl⟩⟩; refine ⟨_, rfl, ?_⟩))
  go_ret
  exact ⟨by first | rfl | (simp [errW_none, errW_some] <;> rfl) | (simp [*, errW_none, errW_some] <;> rfl) | (simp [wrap64]; done), by repeat (first | (with_reducible first | exact HB.out | apply below_alloc | apply pw_below_drewN | apply below_drew1) | exact HB.out)⟩

end Go.Proofs.Ytcgpibbbkdhpeaa.Q
namespace Go.Proofs.Ytcgpibbbkdhpeaa.Q
open Go.RowKit Go.Proofs.YtcgpibbbkdhpeaaW.PrintWords Go.Proofs.YtcgpibbbkdhpeaaW.PrintLast Go.Proofs.YtcgpibbbkdhpeaaW.PrintMore
set_option linter.unusedVariables false
set_option linter.unusedSimpArgs false

/-! ### spec_l1In: function 59 -/
def spec_l1In.f (a0 : Int) (a1 : Int) (a2 : Int) : Option (Bool) := if a0 ≥ a1 then (some (decide (a0 ≤ a2))) else (some false)
set_option maxHeartbeats 8000000 in
set_option maxRecDepth 100000 in
theorem spec_l1In.calls (a0 : Int) (a1 : Int) (a2 : Int) (r : Bool) (w : World) (h : spec_l1In.f a0 a1 a2 = some r) :
  Calls Try.prog 59 #[.int .i64 a0, .int .i64 a1, .int .i64 a2] w fun e w' => e = .returned (.bool r) ∧ Drawn0 w w' := by
 have H : (if a0 ≥ a1 then (some (decide (a0 ≤ a2))) else (some false)) = some r := h
 clear h
 by_cases c4 : a0 ≥ a1
 ·rw [if_pos c4] at H
  have c4b0 : decide (a1 ≤ a0) = true := decide_eq_true c4
  clear c4
  obtain rfl := Option.some.inj H
  go_enter Try.func59, Try.ntmps59
  go_wp2
  go_ret
  exact ⟨by first | rfl | (simp; done) | (simp [*]; done), by repeat (first | exact Drawn0.refl _ | apply Drawn0.step)⟩
 ·rw [if_neg c4] at H
  have c4b0 : decide (a1 ≤ a0) = false := decide_eq_false c4
  clear c4
  obtain rfl := Option.some.inj H
  go_enter Try.func59, Try.ntmps59
  go_wp2
  go_ret
  exact ⟨by first | rfl | (simp; done) | (simp [*]; done), by repeat (first | exact Drawn0.refl _ | apply Drawn0.step)⟩

end Go.Proofs.Ytcgpibbbkdhpeaa.Q
namespace Go.Proofs.Ytcgpibbbkdhpeaa.Q
open Go.RowKit Go.Proofs.YtcgpibbbkdhpeaaW.PrintWords Go.Proofs.YtcgpibbbkdhpeaaW.PrintLast Go.Proofs.YtcgpibbbkdhpeaaW.PrintMore
set_option linter.unusedVariables false
set_option linter.unusedSimpArgs false

/-! ### slices_Max_int_int: function 67 -/
def slices_Max_int_int.l0 : Nat → List Int → Int → Int → Option (Int)
 | 0, _, _, _ => none
 | k + 1, x0, x3, x4 => if x4 < (x0.length : Int) then (if 0 ≤ x4 then (slices_Max_int_int.l0 k x0 (mx x3 (rd x0 x4)) (wrap64 (x4 + 1))) else (none)) else (some x3)
def slices_Max_int_int.f (k : Nat) (l0 : List Int) : Option (Int) := if (l0.length : Int) < 1 then (none) else (if 0 < (l0.length : Int) then (slices_Max_int_int.l0 k l0 (rd l0 0) 1) else (none))
set_option maxHeartbeats 8000000 in
set_option maxRecDepth 100000 in
theorem slices_Max_int_int.calls (k : Nat) (A0 : Option Addr) (c0 : Nat) (l0 : List Int) (r : Int) (w : World) (hr0 : Kd.C (Kd.int .i64) w A0 l0.length l0) (hc0 : l0.length ≤ c0) (h : slices_Max_int_int.f k l0 = some r) :
  Calls Try.prog 67 #[.slice A0 l0.length c0] w fun e w' => e = .returned (.int .i64 r) ∧ Below w.heap.size w w' := by
 have HR0 := Aside0.mk hr0
 have HC0 := Aside0.mk hc0
 clear hr0 hc0
 have HB := Aside0.mk (Below.refl w.heap.size w)
 have H : (if (l0.length : Int) < 1 then (none) else (if 0 < (l0.length : Int) then (slices_Max_int_int.l0 k l0 (rd l0 0) 1) else (none))) = some r := h
 clear h
 by_cases c2 : (l0.length : Int) < 1
 ·rw [if_pos c2] at H
  exact absurd H (by simp)
 ·rw [if_neg c2] at H
  have c2b0 : decide ((l0.length : Int) < 1) = false := decide_eq_false c2
  have c2b1 : decide (l0.length < 1) = false := decide_eq_false (by omega)
  clear c2
  by_cases c3 : 0 < (l0.length : Int)
  ·rw [if_pos c3] at H
   have c3b0 : decide (0 < (l0.length : Int)) = true := decide_eq_true c3
   have c3b1 : decide (0 < l0.length) = true := decide_eq_true (by omega)
   clear c3
   have H' := Aside0.mk H
   clear H
   have p277 : 0 ≤ (0 : Int) := (by omega)
   have q277 : 0 < (l0.length : Int) := of_decide_eq_true (by first | (with_reducible assumption) | assumption)
   obtain ⟨ad277, e277, hx277_0⟩ := Kd.at_int HR0.out 0 p277 q277
   cases e277
   have qi277 : (0 < l0.length) = True := eq_true (by omega)
   (try rw [show ((0 : Int)).toNat = 0 from rfl] at hx277_0)
   (try rw [Addr.add_zero'] at hx277_0)
   replace p277 := eq_true p277
   replace q277 := eq_true q277
   go_enter Try.func67, Try.ntmps67
   go_wp2
   go_loopg [3, 4] k (fun kq v3 v4 w' => ∃ (x3_1 : Int) (x4_1 : Int), v3 = .int .i64 x3_1 ∧ v4 = .int .i64 x4_1 ∧ Aside0 (slices_Max_int_int.l0 kq l0 x3_1 x4_1 = some r) ∧ Aside0 (kq ≤ k) ∧ Aside0 (Below w.heap.size w w'))
   case atStart => exact ⟨(rd l0 0), (1), (by first | rfl | (simp; done) | (simp [*]; done)), (by first | rfl | (simp; done) | (simp [*]; done)), H', ⟨Nat.le_refl _⟩, ⟨by repeat (first | (with_reducible first | exact HB.out | apply below_alloc | apply pw_below_drewN | apply below_drew1) | exact HB.out)⟩⟩
   case round =>
    clear H'
    try clear c2
    try clear c2b0
    try clear c2b1
    try clear p2
    try clear q2
    try clear hx2
    try clear qi2
    try clear c3
    try clear c3b0
    try clear c3b1
    try clear hx277_0
    try clear p277
    try clear q277
    obtain ⟨x3_1, x4_1, rfl, rfl, HA, HK1, HB⟩ := hrel
    cases gk with
    | zero => exact absurd HA.out (by simp [slices_Max_int_int.l0])
    | succ k1 =>
     have H := HA.out
     clear HA
     simp only [slices_Max_int_int.l0] at H
     by_cases c4 : x4_1 < (l0.length : Int)
     ·rw [if_pos c4] at H
      have c4b0 : decide (x4_1 < (l0.length : Int)) = true := decide_eq_true c4
      clear c4
      by_cases c5 : 0 ≤ x4_1
      ·rw [if_pos c5] at H
       have c5b0 : decide (0 ≤ x4_1) = true := decide_eq_true c5
       clear c5
       obtain ⟨ji6, hji6⟩ : ∃ j_ : Int, (mx x3_1 (rd l0 x4_1)) = j_ := ⟨_, rfl⟩
       replace H : (slices_Max_int_int.l0 k1 l0 ji6 (wrap64 (x4_1 + 1))) = some r := by first | (rw [hji6] at H; exact H) | (simp only [hji6] at H ⊢; exact H)
       have hji6_ : (if x3_1 < (rd l0 x4_1) then (rd l0 x4_1) else x3_1) = ji6 := hji6
       have H' := Aside0.mk H
       clear H
       have p278 : 0 ≤ (x4_1 : Int) := of_decide_eq_true (by first | (with_reducible assumption) | assumption)
       have q278 : x4_1 < (l0.length : Int) := of_decide_eq_true (by first | (with_reducible assumption) | assumption)
       obtain ⟨ad278, e278, hx278_0⟩ := Kd.at_int HR0.out x4_1 p278 q278
       obtain rfl : ad277 = ad278 := (by injection e278)
       replace hx278_0 := (HB.out.cell (World.block_lt_of_cell? w _ hx278_0)).trans hx278_0
       replace p278 := eq_true p278
       replace q278 := eq_true q278
       go_wp2
       go_roundg k1
       case measure => have := HK1.out; omega
       case rel => exact ⟨(ji6), (wrap64 (x4_1 + 1)), (by first | rfl | (simp; done) | (simp only [← hji6] <;> (first | rfl | simp)) | (simp [*]; done)), (by first | rfl | (simp; done) | (simp [*]; done)), H', ⟨by have := HK1.out; omega⟩, ⟨by repeat (first | (with_reducible first | exact HB.out | apply below_alloc | apply pw_below_drewN | apply below_drew1) | exact HB.out)⟩⟩
      ·rw [if_neg c5] at H
       exact absurd H (by simp)
     ·rw [if_neg c4] at H
      have c4b0 : decide (x4_1 < (l0.length : Int)) = false := decide_eq_false c4
      clear c4
      obtain rfl := Option.some.inj H
      go_wp2
      go_ret
      exact ⟨by first | rfl | (simp [errW_none, errW_some] <;> rfl) | (simp [*, errW_none, errW_some] <;> rfl) | (simp [wrap64]; done), by repeat (first | (with_reducible first | exact HB.out | apply below_alloc | apply pw_below_drewN | apply below_drew1) | exact HB.out)⟩
  ·rw [if_neg c3] at H
   exact absurd H (by simp)

end Go.Proofs.Ytcgpibbbkdhpeaa.Q
namespace Go.Proofs.Ytcgpibbbkdhpeaa.Q
open Go.RowKit Go.Proofs.YtcgpibbbkdhpeaaW.PrintWords Go.Proofs.YtcgpibbbkdhpeaaW.PrintLast Go.Proofs.YtcgpibbbkdhpeaaW.PrintMore
set_option linter.unusedVariables false
set_option linter.unusedSimpArgs false

/-! ### cmp_Or_int: function 78 -/
def cmp_Or_int.l0 : Nat → Int → List Int → Int → Int → Option (Int)
 | 0, _, _, _, _ => none
 | k + 1, x3, x6, x7, x8 => if x8 < x7 then (if 0 ≤ x8 then (if x8 < (x6.length : Int) then (if (rd x6 x8) = x3 then (cmp_Or_int.l0 k x3 x6 x7 (wrap64 (x8 + 1))) else (some (rd x6 x8))) else (none)) else (none)) else (some x3)
def cmp_Or_int.f (k : Nat) (l0 : List Int) : Option (Int) := cmp_Or_int.l0 k 0 l0 (l0.length : Int) 0
set_option maxHeartbeats 8000000 in
set_option maxRecDepth 100000 in
theorem cmp_Or_int.calls (k : Nat) (A0 : Option Addr) (c0 : Nat) (l0 : List Int) (r : Int) (w : World) (hr0 : Kd.C (Kd.int .i64) w A0 l0.length l0) (hc0 : l0.length ≤ c0) (h : cmp_Or_int.f k l0 = some r) :
  Calls Try.prog 78 #[.slice A0 l0.length c0] w fun e w' => e = .returned (.int .i64 r) ∧ Drawn0 w w' := by
 have HR0 := Aside0.mk hr0
 have HC0 := Aside0.mk hc0
 clear hr0 hc0
 have H : (cmp_Or_int.l0 k 0 l0 (l0.length : Int) 0) = some r := h
 clear h
 have H' := Aside0.mk H
 clear H
 go_enter Try.func78, Try.ntmps78
 go_wp2
 go_loopg [8] k (fun kq v8 w' => ∃ (x8_1 : Int), v8 = .int .i64 x8_1 ∧ Aside0 (cmp_Or_int.l0 kq 0 l0 (l0.length : Int) x8_1 = some r) ∧ Aside0 (kq ≤ k) ∧ Drawn0 w w')
 case atStart => exact ⟨(0), (by first | rfl | (simp; done) | (simp [*]; done)), H', ⟨Nat.le_refl _⟩, by repeat (first | exact Drawn0.refl _ | apply Drawn0.step)⟩
 case round =>
  clear H'
  obtain ⟨x8_1, rfl, HA, HK1, ⟨m1, rfl⟩⟩ := hrel
  cases gk with
  | zero => exact absurd HA.out (by simp [cmp_Or_int.l0])
  | succ k1 =>
   have H := HA.out
   clear HA
   simp only [cmp_Or_int.l0] at H
   by_cases c2 : x8_1 < (l0.length : Int)
   ·rw [if_pos c2] at H
    have c2b0 : decide (x8_1 < (l0.length : Int)) = true := decide_eq_true c2
    clear c2
    by_cases c3 : 0 ≤ x8_1
    ·rw [if_pos c3] at H
     have c3b0 : decide (0 ≤ x8_1) = true := decide_eq_true c3
     clear c3
     by_cases c4 : x8_1 < (l0.length : Int)
     ·rw [if_pos c4] at H
      have c4b0 : decide (x8_1 < (l0.length : Int)) = true := decide_eq_true c4
      clear c4
      by_cases c5 : (rd l0 x8_1) = 0
      ·rw [if_pos c5] at H
       have c5b0 : ((rd l0 x8_1) == 0) = true := beq_iff_eq.mpr c5
       have c5b1 : ((rd l0 x8_1) != 0) = false := bne_eq_false_iff_eq.mpr c5
       clear c5
       have H' := Aside0.mk H
       clear H
       have p281 : 0 ≤ (x8_1 : Int) := of_decide_eq_true (by first | (with_reducible assumption) | assumption)
       have q281 : x8_1 < (l0.length : Int) := of_decide_eq_true (by first | (with_reducible assumption) | assumption)
       obtain ⟨ad281, e281, hx281_0⟩ := Kd.at_int HR0.out x8_1 p281 q281
       cases e281
       replace p281 := eq_true p281
       replace q281 := eq_true q281
       go_wp2
       go_roundg k1
       case measure => have := HK1.out; omega
       case rel => exact ⟨(wrap64 (x8_1 + 1)), (by first | rfl | (simp; done) | (simp [*]; done)), H', ⟨by have := HK1.out; omega⟩, by repeat (first | exact Drawn0.refl _ | apply Drawn0.step)⟩
      ·rw [if_neg c5] at H
       have c5b0 : ((rd l0 x8_1) == 0) = false := beq_eq_false_iff_ne.mpr c5
       have c5b1 : ((rd l0 x8_1) != 0) = true := bne_iff_ne.mpr c5
       obtain rfl := Option.some.inj H
       have p281 : 0 ≤ (x8_1 : Int) := of_decide_eq_true (by first | (with_reducible assumption) | assumption)
       have q281 : x8_1 < (l0.length : Int) := of_decide_eq_true (by first | (with_reducible assumption) | assumption)
       obtain ⟨ad281, e281, hx281_0⟩ := Kd.at_int HR0.out x8_1 p281 q281
       cases e281
       replace p281 := eq_true p281
       replace q281 := eq_true q281
       go_wp2
       go_ret
       exact ⟨by first | rfl | (simp; done) | (simp [*]; done), by repeat (first | exact Drawn0.refl _ | apply Drawn0.step)⟩
     ·rw [if_neg c4] at H
      exact absurd H (by simp)
    ·rw [if_neg c3] at H
     exact absurd H (by simp)
   ·rw [if_neg c2] at H
    have c2b0 : decide (x8_1 < (l0.length : Int)) = false := decide_eq_false c2
    clear c2
    obtain rfl := Option.some.inj H
    go_wp2
    go_ret
    exact ⟨by first | rfl | (simp; done) | (simp [*]; done), by repeat (first | exact Drawn0.refl _ | apply Drawn0.step)⟩

end Go.Proofs.Ytcgpibbbkdhpeaa.Q
namespace Go.Proofs.Ytcgpibbbkdhpeaa.Q
open Go.RowKit Go.Proofs.YtcgpibbbkdhpeaaW.PrintWords Go.Proofs.YtcgpibbbkdhpeaaW.PrintLast Go.Proofs.YtcgpibbbkdhpeaaW.PrintMore
set_option linter.unusedVariables false
set_option linter.unusedSimpArgs false

/-! ### spec_l2Day: function 79 -/
def spec_l2Day.f (a0 : Int) : Option (Bool) := (spec_l1In.f a0 0 4000).bind fun t133 => (some t133)
set_option maxHeartbeats 8000000 in
set_option maxRecDepth 100000 in
theorem spec_l2Day.calls (a0 : Int) (r : Bool) (w : World) (h : spec_l2Day.f a0 = some r) :
  Calls Try.prog 79 #[.int .i64 a0] w fun e w' => e = .returned (.bool r) ∧ Drawn0 w w' := by
 have H : ((spec_l1In.f a0 0 4000).bind fun t133 => (some t133)) = some r := h
 clear h
 replace H := Option.bind_eq_some_iff.mp H
 obtain ⟨t133, A20, H⟩ := H
 have A2 := Aside0.mk A20
 clear A20
 obtain rfl := Option.some.inj H
 go_enter Try.func79, Try.ntmps79
 go_wp2_with (first | ((with_reducible refine gate_callee (f := 59) rfl ?_); refine goesL_ (some 4) rfl rfl Try.func59 (by kernel_rfl) rfl #[.int .i64 a0, .int .i64 0, .int .i64 4000] rfl (by (try simp only [List.map_toArray, List.map_cons, List.map_nil]); first | done | rfl | (simp only [List.length_drop, List.length_take]; rfl)) ?_; (with_reducible refine (spec_l1In.calls a0 0 4000 t133 _ A2.out).mono ?_); rintro e w' ⟨rfl, ⟨nd, rfl⟩⟩; refine ⟨_, rfl, ?_⟩))
 go_ret
 exact ⟨by first | rfl | (simp; done) | (simp [*]; done), by repeat (first | exact Drawn0.refl _ | apply Drawn0.step)⟩

end Go.Proofs.Ytcgpibbbkdhpeaa.Q
namespace Go.Proofs.Ytcgpibbbkdhpeaa.Q
open Go.RowKit Go.Proofs.YtcgpibbbkdhpeaaW.PrintWords Go.Proofs.YtcgpibbbkdhpeaaW.PrintLast Go.Proofs.YtcgpibbbkdhpeaaW.PrintMore
set_option linter.unusedVariables false
set_option linter.unusedSimpArgs false

/-! ### impl_isId: function 82 -/
def impl_isId.f (a0 : Int) : Option (Bool) := (impl_in.f a0 1 99).bind fun t208 => (some t208)
set_option maxHeartbeats 8000000 in
set_option maxRecDepth 100000 in
theorem impl_isId.calls (a0 : Int) (r : Bool) (w : World) (h : impl_isId.f a0 = some r) :
  Calls Try.prog 82 #[.int .i64 a0] w fun e w' => e = .returned (.bool r) ∧ Drawn0 w w' := by
 have H : ((impl_in.f a0 1 99).bind fun t208 => (some t208)) = some r := h
 clear h
 replace H := Option.bind_eq_some_iff.mp H
 obtain ⟨t208, A20, H⟩ := H
 have A2 := Aside0.mk A20
 clear A20
 obtain rfl := Option.some.inj H
 go_enter Try.func82, Try.ntmps82
 go_wp2_with (first | ((with_reducible refine gate_callee (f := 62) rfl ?_); refine goesL_ (some 4) rfl rfl Try.func62 (by kernel_rfl) rfl #[.int .i64 a0, .int .i64 1, .int .i64 99] rfl (by (try simp only [List.map_toArray, List.map_cons, List.map_nil]); first | done | rfl | (simp only [List.length_drop, List.length_take]; rfl)) ?_; (with_reducible refine (impl_in.calls a0 1 99 t208 _ A2.out).mono ?_); rintro e w' ⟨rfl, ⟨nd, rfl⟩⟩; refine ⟨_, rfl, ?_⟩))
 go_ret
 exact ⟨by first | rfl | (simp; done) | (simp [*]; done), by repeat (first | exact Drawn0.refl _ | apply Drawn0.step)⟩

end Go.Proofs.Ytcgpibbbkdhpeaa.Q
namespace Go.Proofs.Ytcgpibbbkdhpeaa.Q
open Go.RowKit Go.Proofs.YtcgpibbbkdhpeaaW.PrintWords Go.Proofs.YtcgpibbbkdhpeaaW.PrintLast Go.Proofs.YtcgpibbbkdhpeaaW.PrintMore
set_option linter.unusedVariables false
set_option linter.unusedSimpArgs false

/-! ### impl_isDay: function 84 -/
def impl_isDay.f (a0 : Int) : Option (Bool) := (impl_in.f a0 0 4000).bind fun t210 => (some t210)
set_option maxHeartbeats 8000000 in
set_option maxRecDepth 100000 in
theorem impl_isDay.calls (a0 : Int) (r : Bool) (w : World) (h : impl_isDay.f a0 = some r) :
  Calls Try.prog 84 #[.int .i64 a0] w fun e w' => e = .returned (.bool r) ∧ Drawn0 w w' := by
 have H : ((impl_in.f a0 0 4000).bind fun t210 => (some t210)) = some r := h
 clear h
 replace H := Option.bind_eq_some_iff.mp H
 obtain ⟨t210, A20, H⟩ := H
 have A2 := Aside0.mk A20
 clear A20
 obtain rfl := Option.some.inj H
 go_enter Try.func84, Try.ntmps84
 go_wp2_with (first | ((with_reducible refine gate_callee (f := 62) rfl ?_); refine goesL_ (some 4) rfl rfl Try.func62 (by kernel_rfl) rfl #[.int .i64 a0, .int .i64 0, .int .i64 4000] rfl (by (try simp only [List.map_toArray, List.map_cons, List.map_nil]); first | done | rfl | (simp only [List.length_drop, List.length_take]; rfl)) ?_; (with_reducible refine (impl_in.calls a0 0 4000 t210 _ A2.out).mono ?_); rintro e w' ⟨rfl, ⟨nd, rfl⟩⟩; refine ⟨_, rfl, ?_⟩))
 go_ret
 exact ⟨by first | rfl | (simp; done) | (simp [*]; done), by repeat (first | exact Drawn0.refl _ | apply Drawn0.step)⟩

end Go.Proofs.Ytcgpibbbkdhpeaa.Q
namespace Go.Proofs.Ytcgpibbbkdhpeaa.Q
open Go.RowKit Go.Proofs.YtcgpibbbkdhpeaaW.PrintWords Go.Proofs.YtcgpibbbkdhpeaaW.PrintLast Go.Proofs.YtcgpibbbkdhpeaaW.PrintMore
set_option linter.unusedVariables false
set_option linter.unusedSimpArgs false

/-! ### spec_l1Most: function 86 -/
def spec_l1Most.f (a0 : Int) (a1 : Int) : Option (Int) := if a0 > a1 then (some a0) else (some a1)
set_option maxHeartbeats 8000000 in
set_option maxRecDepth 100000 in
theorem spec_l1Most.calls (a0 : Int) (a1 : Int) (r : Int) (w : World) (h : spec_l1Most.f a0 a1 = some r) :
  Calls Try.prog 86 #[.int .i64 a0, .int .i64 a1] w fun e w' => e = .returned (.int .i64 r) ∧ Drawn0 w w' := by
 have H : (if a0 > a1 then (some a0) else (some a1)) = some r := h
 clear h
 by_cases c3 : a0 > a1
 ·rw [if_pos c3] at H
  have c3b0 : decide (a1 < a0) = true := decide_eq_true c3
  clear c3
  obtain rfl := Option.some.inj H
  go_enter Try.func86, Try.ntmps86
  go_wp2
  go_ret
  exact ⟨by first | rfl | (simp; done) | (simp [*]; done), by repeat (first | exact Drawn0.refl _ | apply Drawn0.step)⟩
 ·rw [if_neg c3] at H
  have c3b0 : decide (a1 < a0) = false := decide_eq_false c3
  clear c3
  obtain rfl := Option.some.inj H
  go_enter Try.func86, Try.ntmps86
  go_wp2
  go_ret
  exact ⟨by first | rfl | (simp; done) | (simp [*]; done), by repeat (first | exact Drawn0.refl _ | apply Drawn0.step)⟩

end Go.Proofs.Ytcgpibbbkdhpeaa.Q
namespace Go.Proofs.Ytcgpibbbkdhpeaa.Q
open Go.RowKit Go.Proofs.YtcgpibbbkdhpeaaW.PrintWords Go.Proofs.YtcgpibbbkdhpeaaW.PrintLast Go.Proofs.YtcgpibbbkdhpeaaW.PrintMore
set_option linter.unusedVariables false
set_option linter.unusedSimpArgs false

/-! ### spec_l1Own: function 89 -/
def spec_l1Own.f (l0 : List Int) : Option (List Int) := (some (([] : List Int) : List Int)).bind fun y138 => (if y138.length + l0.length < 17592186044416 then (some (y138 ++ l0)) else (none))
set_option maxHeartbeats 8000000 in
set_option maxRecDepth 100000 in
theorem spec_l1Own.calls (A0 : Option Addr) (c0 : Nat) (l0 : List Int) (r : List Int) (w : World) (hr0 : Kd.C (Kd.int .i64) w A0 l0.length l0) (hc0 : l0.length ≤ c0) (h : spec_l1Own.f l0 = some r) :
  Calls Try.prog 89 #[.slice A0 l0.length c0] w fun e w' => ∃ v0_ : Value, e = .returned (v0_) ∧ Kd.R (Kd.int .i64) 3 w' w.heap.size (fun _ => True) v0_ r ∧ Below w.heap.size w w' := by
 have HR0 := Aside0.mk hr0
 have HC0 := Aside0.mk hc0
 clear hr0 hc0
 have HB := Aside0.mk (Below.refl w.heap.size w)
 have H : ((some (([] : List Int) : List Int)).bind fun y138 => (if y138.length + l0.length < 17592186044416 then (some (y138 ++ l0)) else (none))) = some r := h
 clear h
 obtain ⟨y138, hy138⟩ : ∃ y_ : List Int, y_ = (([] : List Int)) := ⟨_, rfl⟩
 replace H : (if y138.length + l0.length < 17592186044416 then (some (y138 ++ l0)) else (none)) = some r := by first | (rw [hy138]; with_reducible exact H) | (have H2_ := (Option.bind_some _ _).symm.trans H; rw [hy138]; with_reducible exact H2_) | (have H2_ := (Option.bind_some _ _).symm.trans H; with_reducible exact H2_) | with_reducible exact H | (rw [hy138]; exact H) | exact H
 have Ny138 := Aside0.mk hy138
 clear hy138
 by_cases c2 : y138.length + l0.length < 17592186044416
 ·rw [if_pos c2] at H
  have LMc2 := Aside0.mk c2
  clear c2
  obtain ⟨y141, hy141⟩ : ∃ y_ : List Int, y_ = (y138 ++ l0) := ⟨_, rfl⟩
  replace H : (some y141) = some r := by first | (rw [hy141]; with_reducible exact H) | (have H2_ := (Option.bind_some _ _).symm.trans H; rw [hy141]; with_reducible exact H2_) | (have H2_ := (Option.bind_some _ _).symm.trans H; with_reducible exact H2_) | with_reducible exact H | (rw [hy141]; exact H) | exact H
  have Ny141 := Aside0.mk hy141
  clear hy141
  obtain rfl := Option.some.inj H
  go_enter Try.func89, Try.ntmps89
  go_wp2_with (first | ((with_reducible refine gate_dst (N := 3) rfl ?_); refine Kd.R_lit (Kd.int .i64) _ 3 ?hg (N := 3) ?hd (xs := ([] : List Int)) (inner := []) (ok := fun _ => True) (okp := fun _ => True) ?hr ?hp (fun _ hk => hk) trivial (Below.refl _ _) (Nat.le_refl _) (by simp) ?_; (case hd => rfl); (case hg => rfl); (case hr => first | (go_simp; done) | (go_simp; rfl)); (case hp => exact (Reps.none _ _)); intro v139 w3 ho4 hb hg_ hnew_; clear hg_ hnew_; (first | rw [← Ny138.out] at ho4 | (simp only [Int.reduceToNat] at ho4; rw [← Ny138.out] at ho4)); have n0_ := Aside0.mk (Kd.R_lower ho4 (below_size (by repeat (first | (with_reducible first | exact HB.out | apply below_alloc | apply pw_below_drewN | apply below_drew1) | exact HB.out)))); have n1_ := Aside0.mk (below_step (by repeat (first | (with_reducible first | exact HB.out | apply below_alloc | apply pw_below_drewN | apply below_drew1) | exact HB.out)) hb); clear HB; have HO140 := n0_; have HB := n1_; clear n0_ n1_; clear hb ho4) | ((with_reducible refine gate_builtin (b := .append) (xs := #[.tmp 3, .tmp 4]) rfl ?_); at_builtin; refine Kd.R_append_rows (Kd.int .i64) (w0 := w) w.heap.size rfl (.tmp 3) (.tmp 4) 29 3 (.int .i64 0) 8 rfl Try.underlying29 info3 rfl (by decide) (by omega) v139 y138 l0 _ _ _ (fun _ => True) (fun _ => False) rfl rfl ?aO ?aR (fun _ _ h => h) (fun _ h => h.elim) ?aF ?aB ?aS ?aL ?_; (case aR => repeat (first | exact (Kd.C_below HR0.out HB.out) | (with_reducible refine Kd.C_alloc ?_ _) | (with_reducible refine Kd.C_drewN ?_ _) | (with_reducible refine Kd.C_drew ?_))); (case aB => exact (by repeat (first | (with_reducible first | exact HB.out | apply below_alloc | apply pw_below_drewN | apply below_drew1) | exact HB.out))); (case aF => exact (fun _ _ => trivial)); (case aO => exact (by (with_reducible repeat (first | apply Kd.R_alloc | apply Kd.R_drewN | apply Kd.R_drew)); exact HO140.out)); (case aS => exact (below_size (by repeat (first | (with_reducible first | exact HB.out | apply below_alloc | apply pw_below_drewN | apply below_drew1) | exact HB.out)))); (case aL => have := LMc2.out; omega); intro v142 w5 ho hb hg hat; rw [← Ny141.out] at ho; have n0_ := Aside0.mk (hb); have n1_ := Aside0.mk (ho); clear HB; clear HO140; have HB := n0_; have HO143 := n1_; clear n0_ n1_; clear ho hb hg hat))
  go_ret
  exact ⟨_, by first | rfl | (simp [errW_none, errW_some] <;> rfl) | (simp [*, errW_none, errW_some] <;> rfl) | (simp [wrap64]; done), by (with_reducible repeat (first | apply Kd.R_alloc | apply Kd.R_drewN | apply Kd.R_drew)); exact HO143.out, by repeat (first | (with_reducible first | exact HB.out | apply below_alloc | apply pw_below_drewN | apply below_drew1) | exact HB.out)⟩
 ·rw [if_neg c2] at H
  exact absurd H (by simp)

end Go.Proofs.Ytcgpibbbkdhpeaa.Q
namespace Go.Proofs.Ytcgpibbbkdhpeaa.Q
open Go.RowKit Go.Proofs.YtcgpibbbkdhpeaaW.PrintWords Go.Proofs.YtcgpibbbkdhpeaaW.PrintLast Go.Proofs.YtcgpibbbkdhpeaaW.PrintMore
set_option linter.unusedVariables false
set_option linter.unusedSimpArgs false

/-! ### slices_Clone_int_int: function 91 -/
def slices_Clone_int_int.f (l0 : List Int) : Option (List Int) := (some (([] : List Int) : List Int)).bind fun y226 => (if y226.length + l0.length < 17592186044416 then (some (y226 ++ l0)) else (none))
set_option maxHeartbeats 8000000 in
set_option maxRecDepth 100000 in
theorem slices_Clone_int_int.calls_some (ad0_ : Addr) (c0 : Nat) (l0 : List Int) (r : List Int) (w : World) (hr0 : Kd.C (Kd.int .i64) w (some ad0_) l0.length l0) (hc0 : l0.length ≤ c0) (h : slices_Clone_int_int.f l0 = some r) :
  Calls Try.prog 91 #[.slice (some ad0_) l0.length c0] w fun e w' => ∃ v0_ : Value, e = .returned (v0_) ∧ Kd.R (Kd.int .i64) 3 w' w.heap.size (fun _ => True) v0_ r ∧ Below w.heap.size w w' := by
 have he_ := fun w_ => Go.Lib.run_eql_slice_some_nil (P := Try.prog) w_ ad0_ l0.length c0 Try.underlying29
 have HR0 := Aside0.mk hr0
 have HC0 := Aside0.mk hc0
 clear hr0 hc0
 have HB := Aside0.mk (Below.refl w.heap.size w)
 have H : ((some (([] : List Int) : List Int)).bind fun y226 => (if y226.length + l0.length < 17592186044416 then (some (y226 ++ l0)) else (none))) = some r := h
 clear h
 obtain ⟨y226, hy226⟩ : ∃ y_ : List Int, y_ = (([] : List Int)) := ⟨_, rfl⟩
 replace H : (if y226.length + l0.length < 17592186044416 then (some (y226 ++ l0)) else (none)) = some r := by first | (rw [hy226]; with_reducible exact H) | (have H2_ := (Option.bind_some _ _).symm.trans H; rw [hy226]; with_reducible exact H2_) | (have H2_ := (Option.bind_some _ _).symm.trans H; with_reducible exact H2_) | with_reducible exact H | (rw [hy226]; exact H) | exact H
 have Ny226 := Aside0.mk hy226
 clear hy226
 by_cases c2 : y226.length + l0.length < 17592186044416
 ·rw [if_pos c2] at H
  have LMc2 := Aside0.mk c2
  clear c2
  obtain ⟨y229, hy229⟩ : ∃ y_ : List Int, y_ = (y226 ++ l0) := ⟨_, rfl⟩
  replace H : (some y229) = some r := by first | (rw [hy229]; with_reducible exact H) | (have H2_ := (Option.bind_some _ _).symm.trans H; rw [hy229]; with_reducible exact H2_) | (have H2_ := (Option.bind_some _ _).symm.trans H; with_reducible exact H2_) | with_reducible exact H | (rw [hy229]; exact H) | exact H
  have Ny229 := Aside0.mk hy229
  clear hy229
  obtain rfl := Option.some.inj H
  go_enter Try.func91, Try.ntmps91
  go_wp2_with (first | ((with_reducible refine gate_dst (N := 5) rfl ?_); refine Kd.R_lit (Kd.int .i64) _ 3 ?hg (N := 5) ?hd (xs := ([] : List Int)) (inner := []) (ok := fun _ => True) (okp := fun _ => True) ?hr ?hp (fun _ hk => hk) trivial (Below.refl _ _) (Nat.le_refl _) (by simp) ?_; (case hd => rfl); (case hg => rfl); (case hr => first | (go_simp; done) | (go_simp; rfl)); (case hp => exact (Reps.none _ _)); intro v227 w3 ho4 hb hg_ hnew_; clear hg_ hnew_; (first | rw [← Ny226.out] at ho4 | (simp only [Int.reduceToNat] at ho4; rw [← Ny226.out] at ho4)); have n0_ := Aside0.mk (Kd.R_lower ho4 (below_size (by repeat (first | (with_reducible first | exact HB.out | apply below_alloc | apply pw_below_drewN | apply below_drew1) | exact HB.out)))); have n1_ := Aside0.mk (below_step (by repeat (first | (with_reducible first | exact HB.out | apply below_alloc | apply pw_below_drewN | apply below_drew1) | exact HB.out)) hb); clear HB; have HO228 := n0_; have HB := n1_; clear n0_ n1_; clear hb ho4) | ((with_reducible refine gate_builtin (b := .append) (xs := #[.tmp 5, .tmp 6]) rfl ?_); at_builtin; refine Kd.R_append_rows (Kd.int .i64) (w0 := w) w.heap.size rfl (.tmp 5) (.tmp 6) 29 3 (.int .i64 0) 8 rfl Try.underlying29 info3 rfl (by decide) (by omega) v227 y226 l0 _ _ _ (fun _ => True) (fun _ => False) rfl rfl ?aO ?aR (fun _ _ h => h) (fun _ h => h.elim) ?aF ?aB ?aS ?aL ?_; (case aR => repeat (first | exact (Kd.C_below HR0.out HB.out) | (with_reducible refine Kd.C_alloc ?_ _) | (with_reducible refine Kd.C_drewN ?_ _) | (with_reducible refine Kd.C_drew ?_))); (case aB => exact (by repeat (first | (with_reducible first | exact HB.out | apply below_alloc | apply pw_below_drewN | apply below_drew1) | exact HB.out))); (case aF => exact (fun _ _ => trivial)); (case aO => exact (by (with_reducible repeat (first | apply Kd.R_alloc | apply Kd.R_drewN | apply Kd.R_drew)); exact HO228.out)); (case aS => exact (below_size (by repeat (first | (with_reducible first | exact HB.out | apply below_alloc | apply pw_below_drewN | apply below_drew1) | exact HB.out)))); (case aL => have := LMc2.out; omega); intro v230 w5 ho hb hg hat; rw [← Ny229.out] at ho; have n0_ := Aside0.mk (hb); have n1_ := Aside0.mk (ho); clear HB; clear HO228; have HB := n0_; have HO231 := n1_; clear n0_ n1_; clear ho hb hg hat))
  go_ret
  exact ⟨_, by first | rfl | (simp [errW_none, errW_some] <;> rfl) | (simp [*, errW_none, errW_some] <;> rfl) | (simp [wrap64]; done), by (with_reducible repeat (first | apply Kd.R_alloc | apply Kd.R_drewN | apply Kd.R_drew)); exact HO231.out, by repeat (first | (with_reducible first | exact HB.out | apply below_alloc | apply pw_below_drewN | apply below_drew1) | exact HB.out)⟩
 ·rw [if_neg c2] at H
  exact absurd H (by simp)
set_option maxHeartbeats 8000000 in
set_option maxRecDepth 100000 in
theorem slices_Clone_int_int.calls (A0 : Option Addr) (c0 : Nat) (l0 : List Int) (r : List Int) (w : World) (hr0 : Kd.C (Kd.int .i64) w A0 l0.length l0) (hc0 : l0.length ≤ c0) (h : slices_Clone_int_int.f l0 = some r) :
  Calls Try.prog 91 #[.slice A0 l0.length c0] w fun e w' => ∃ v0_ : Value, e = .returned (v0_) ∧ Kd.R (Kd.int .i64) 3 w' w.heap.size (fun _ => True) v0_ r ∧ Below w.heap.size w w' := by
 cases A0 with
 | some ad => first | exact slices_Clone_int_int.calls_some ad c0 l0 r w hr0 hc0 h | exact slices_Clone_int_int.calls_some P0_ ad c0 l0 r w hr0 hc0 h | exact slices_Clone_int_int.calls_some P0_ ad c0 l0 r w hs0 h | (apply slices_Clone_int_int.calls_some <;> assumption)
 | none =>
  have hl : l0.length = 0 := by
   rcases Nat.eq_zero_or_pos l0.length with h0 | h0
   ·exact h0
   ·obtain ⟨ad, he, _⟩ := (show Kd.C (Kd.int .i64) w none l0.length l0 from by first | exact hr0 | exact hr0 w (fun _ _ _ => rfl) | exact (Kd.V_reads' hs0).2.2).2.2 h0
    cases he
  obtain rfl : l0 = [] := List.eq_nil_of_length_eq_zero hl
  obtain rfl : ([] : List _) = r := by have h' := h; simp [slices_Clone_int_int.f] at h'; first | exact h' | exact h'.symm
  clear h hl hr0 hc0
  have he_ := fun w_ => Go.Lib.run_eql_slice_nil_nil (P := Try.prog) w_ 0 c0 Try.underlying29
  go_enter Try.func91, Try.ntmps91
  go_wp2
  go_ret
  exact ⟨_, rfl, (by first | exact Kd.R_nil _ _ _ _ _ | exact Kd.S_nil _ _ _ _ _ | exact Kd.N_nil _ _ _ _ _ | exact Kd.V_nil _ _ _ _ _), Below.refl _ _⟩

end Go.Proofs.Ytcgpibbbkdhpeaa.Q
namespace Go.Proofs.Ytcgpibbbkdhpeaa.Q
open Go.RowKit Go.Proofs.YtcgpibbbkdhpeaaW.PrintWords Go.Proofs.YtcgpibbbkdhpeaaW.PrintLast Go.Proofs.YtcgpibbbkdhpeaaW.PrintMore
set_option linter.unusedVariables false
set_option linter.unusedSimpArgs false

/-! ### cmp_isNaN_int: function 92 -/
def cmp_isNaN_int.f (a0 : Int) : Option (Bool) := some (a0 != a0)
set_option maxHeartbeats 8000000 in
set_option maxRecDepth 100000 in
theorem cmp_isNaN_int.calls (a0 : Int) (r : Bool) (w : World) (h : cmp_isNaN_int.f a0 = some r) :
  Calls Try.prog 92 #[.int .i64 a0] w fun e w' => e = .returned (.bool r) ∧ Drawn0 w w' := by
 have H : (some (a0 != a0)) = some r := h
 clear h
 obtain rfl := Option.some.inj H
 go_enter Try.func92, Try.ntmps92
 go_wp2
 go_ret
 exact ⟨by first | rfl | (simp; done) | (simp [*]; done), by repeat (first | exact Drawn0.refl _ | apply Drawn0.step)⟩

end Go.Proofs.Ytcgpibbbkdhpeaa.Q
namespace Go.Proofs.Ytcgpibbbkdhpeaa.Q
open Go.RowKit Go.Proofs.YtcgpibbbkdhpeaaW.PrintWords Go.Proofs.YtcgpibbbkdhpeaaW.PrintLast Go.Proofs.YtcgpibbbkdhpeaaW.PrintMore
set_option linter.unusedVariables false
set_option linter.unusedSimpArgs false

/-! ### IndexFunc_93: function 93 -/
set_option maxHeartbeats 2000000 in
set_option maxRecDepth 100000 in
theorem idx_93 (g : Nat) (lb : Array Value) (eg : ∀ args w, (callFunc g args).run Try.prog w = .ok (.enter g args) w) (p : S51 → Bool) (A : Option Addr) (c : Nat) (l : List S51) (w : World) (hr : Kd.C k51 w A l.length l)
  (hp : ∀ x, x ∈ l → ∀ W cs, Below w.heap.size w W → (k51).K W x cs → Calls Try.prog g (#[.agg cs.toArray] ++ lb) W fun e W' => e = .returned (.bool (p x)) ∧ Below W.heap.size W W') :
  Calls Try.prog 93 #[.slice A l.length c, .func (.func g) #[] lb] w fun e w' => e = .returned (.int .i64 (idx p l)) ∧ Below w.heap.size w w' := by
 have hn := hr.2.1
 go_enter Try.func93, Try.ntmps93
 go_wp2
 go_loopg [5, 8] l.length (fun gg _ s8 wr => ∃ kk : Nat, kk ≤ l.length ∧ l.length - kk ≤ gg ∧ s8 = .int .i64 kk ∧ Aside0 (Below w.heap.size w wr) ∧ Aside0 (∀ j (hj : j < kk) (h2 : j < l.length), p (l[j]) = false))
 case atStart => exact ⟨0, Nat.zero_le _, by omega, rfl, Aside0.mk (Below.refl _ w), Aside0.mk (fun j hj => absurd hj (Nat.not_lt_zero _))⟩
 case round =>
  obtain ⟨kk, hkk, hg, rfl, BW, AA⟩ := hrel
  by_cases hlt : kk < l.length
  ·have hltz : (kk : Int) < (l.length : Int) := by omega
   have hC := Kd.C_below hr BW.out
   obtain ⟨ad, cs, rfl, hcl, hK, hcell⟩ := Kd.C_get hC z51 (kk : Int) (by omega) (by omega)
   have hel : l.getD (kk : Int).toNat z51 = l[kk] := by simp [List.getD, hlt]
   rw [hel] at hK
   have hcell' : ∀ j u, cs[j]? = some u → wr.cell? (ad.add (kk * 5 + j)) = some u := hcell
   have hcall := hp (l[kk]) (List.getElem_mem hlt) wr cs BW.out hK
   obtain rfl := k51_open hK
   have hh0 : wr.cell? (ad.add (kk * 5)) = some (.int .i64 ((l[kk]).f0)) := by simpa using hcell' 0 _ rfl
   have hh1 : wr.cell? ⟨(ad.add (kk * 5)).block, (ad.add (kk * 5)).off + 1, none⟩ = some (.int .i64 ((l[kk]).f1)) := by rw [← add_field _ _ 1 (by omega)]; exact hcell' 1 _ rfl
   have hh2 : wr.cell? ⟨(ad.add (kk * 5)).block, (ad.add (kk * 5)).off + 2, none⟩ = some (.int .i64 ((l[kk]).f2)) := by rw [← add_field _ _ 2 (by omega)]; exact hcell' 2 _ rfl
   have hh3 : wr.cell? ⟨(ad.add (kk * 5)).block, (ad.add (kk * 5)).off + 3, none⟩ = some (.int .i64 ((l[kk]).f3)) := by rw [← add_field _ _ 3 (by omega)]; exact hcell' 3 _ rfl
   have hh4 : wr.cell? ⟨(ad.add (kk * 5)).block, (ad.add (kk * 5)).off + 4, none⟩ = some (.int .i64 ((l[kk]).f4)) := by rw [← add_field _ _ 4 (by omega)]; exact hcell' 4 _ rfl
   have HP := Aside0.mk hp
   have HC := Aside0.mk hC
   have HK := Aside0.mk hK
   clear hp hC hel hcell hcell' hK hcl
   cases hq : p (l[kk]) with
   | true =>
    rw [hq] at hcall
    have HQ := Aside0.mk hq
    clear hq
    go_wp2_with (go_at_fn g; refine hcall.mono ?_; rintro e w' ⟨rfl, hb'⟩)
    go_ret
    refine ⟨?_, BW.out.trans (hb'.mono BW.out.size)⟩
    rw [idx_hit hlt HQ.out (fun j hj => AA.out j hj (by omega))]
    rfl
   | false =>
    rw [hq] at hcall
    have HQ := Aside0.mk hq
    clear hq
    go_wp2_with (go_at_fn g; refine hcall.mono ?_; rintro e w' ⟨rfl, hb'⟩)
    go_roundg (l.length - (kk + 1))
    case measure => omega
    case rel =>
     refine ⟨kk + 1, by omega, by omega, by go_num, Aside0.mk (BW.out.trans (hb'.mono BW.out.size)), Aside0.mk (fun j hj h2 => ?_)⟩
     by_cases e : j = kk
     ·subst e
      exact HQ.out
     ·exact AA.out j (by omega) h2
  ·have hltz : ¬ (kk : Int) < (l.length : Int) := by omega
   have HK : kk = l.length := by omega
   have HK2 := Aside0.mk HK
   clear HK
   go_wp2
   go_ret
   refine ⟨?_, BW.out⟩
   rw [idx_miss (fun j hj => AA.out j (by have := HK2.out; omega) hj)]
   rfl
set_option maxHeartbeats 2000000 in
theorem con_80 (g : Nat) (lb : Array Value) (eg : ∀ args w, (callFunc g args).run Try.prog w = .ok (.enter g args) w) (p : S51 → Bool) (A : Option Addr) (c : Nat) (l : List S51) (w : World) (hr : Kd.C k51 w A l.length l)
  (hp : ∀ x, x ∈ l → ∀ W cs, Below w.heap.size w W → (k51).K W x cs → Calls Try.prog g (#[.agg cs.toArray] ++ lb) W fun e W' => e = .returned (.bool (p x)) ∧ Below W.heap.size W W') :
  Calls Try.prog 80 #[.slice A l.length c, .func (.func g) #[] lb] w fun e w' => e = .returned (.bool (l.any p)) ∧ Below w.heap.size w w' := by
 rw [← idx_nonneg]
 go_enter Try.func80, Try.ntmps80
 go_wp2_with (go_at_call 93; refine (idx_93 g lb eg p A c l _ hr hp).mono ?_; rintro e w' ⟨rfl, hb'⟩)
 go_ret
 exact ⟨rfl, hb'⟩

end Go.Proofs.Ytcgpibbbkdhpeaa.Q
namespace Go.Proofs.Ytcgpibbbkdhpeaa.Q
open Go.RowKit Go.Proofs.YtcgpibbbkdhpeaaW.PrintWords Go.Proofs.YtcgpibbbkdhpeaaW.PrintLast Go.Proofs.YtcgpibbbkdhpeaaW.PrintMore
set_option linter.unusedVariables false
set_option linter.unusedSimpArgs false

/-! ### areAll_49: function 49 -/
set_option maxHeartbeats 2000000 in
theorem clo_81 (g : Nat) (eg : ∀ args w, (callFunc g args).run Try.prog w = .ok (.enter g args) w) (b : Nat) (x : S51) (cs : List Value) (q : Bool) (w : World) (hb : w.cell? ⟨b, 0, none⟩ = some (.func (.func g) #[] #[])) (hlt : b < w.heap.size)
  (hk : (k51).K w x cs)
  (hq : ∀ W, Below w.heap.size w W → Calls Try.prog g #[.agg cs.toArray] W fun e W' => e = .returned (.bool q) ∧ Below W.heap.size W W') :
  Calls Try.prog 81 #[.agg cs.toArray, .pointer (some ⟨b, 0, none⟩)] w fun e w' => e = .returned (.bool (!q)) ∧ Below w.heap.size w w' := by
 have hu := Try.underlying51
 obtain rfl := k51_open hk
 have HQ := Aside0.mk hq
 have HKK := Aside0.mk hk
 clear hq hk
 go_enter Try.func81, Try.ntmps81
 go_wp2_with (go_at_fn g; refine (HQ.out _ ((Below.refl _ _).alloc (Nat.le_refl _) _)).mono ?_; rintro e w' ⟨rfl, hb'⟩)
 go_ret
 exact ⟨rfl, ((Below.refl _ _).alloc (Nat.le_refl _) _).trans (hb'.mono (by simp))⟩
set_option maxHeartbeats 2000000 in
theorem all_49 (g : Nat) (eg : ∀ args w, (callFunc g args).run Try.prog w = .ok (.enter g args) w) (p : S51 → Bool) (A : Option Addr) (c : Nat) (l : List S51) (w : World) (hr : Kd.C k51 w A l.length l)
  (hp : ∀ x, x ∈ l → ∀ W cs, Below w.heap.size w W → (k51).K W x cs → Calls Try.prog g #[.agg cs.toArray] W fun e W' => e = .returned (.bool (p x)) ∧ Below W.heap.size W W') :
  Calls Try.prog 49 #[.slice A l.length c, .func (.func g) #[] #[]] w fun e w' => e = .returned (.bool (l.all p)) ∧ Below w.heap.size w w' := by
 have hall : l.all p = !(l.any fun x => !p x) := by simp [List.not_any_eq_all_not]
 rw [hall]
 have HH := Aside0.mk hall
 clear hall
 have ha : Below w.heap.size w (w.alloc (.cells #[.func (.func g) #[] #[]] 59)) := (Below.refl _ _).alloc (Nat.le_refl _) _
 have HA := Aside0.mk ha
 clear ha
 have ec : ∀ args w, (callFunc 81 args).run Try.prog w = .ok (.enter 81 args) w := enters_of Try.func81 (by kernel_rfl) rfl
 have hcon := con_80 81 #[.pointer (some ⟨w.heap.size, 0, none⟩)] ec (fun x => !p x) A c l (w.alloc (.cells #[.func (.func g) #[] #[]] 59)) (Kd.C_below hr HA.out) (fun x hx W cs hb hk => by
  have hcell : W.cell? ⟨w.heap.size, 0, none⟩ = some (.func (.func g) #[] #[]) := by
   rw [hb.cell (p := ⟨w.heap.size, 0, none⟩) (by simp)]
   simp
  exact clo_81 g eg w.heap.size x cs (p x) W hcell (by have := hb.size; simp at this; omega) hk (fun W' hW' => hp x hx W' cs (HA.out.trans ((hb.mono (by simp)).trans (hW'.mono (by have := hb.size; simp at this; omega)))) (Kd.K_below _ hW' hk)))
 have HC := Aside0.mk hcon
 clear hcon hp
 go_enter Try.func49, Try.ntmps49
 go_wp2_with (go_at_call 80; refine HC.out.mono ?_; rintro e w' ⟨rfl, hb'⟩)
 go_ret
 exact ⟨rfl, HA.out.trans (hb'.mono (by simp))⟩

end Go.Proofs.Ytcgpibbbkdhpeaa.Q

namespace Go.Proofs.Ytcgpibbbkdhpeaa.M
open Go.RowKit Go.Proofs.Ytcgpibbbkdhpeaa.Q Go.Proofs.YtcgpibbbkdhpeaaW.PrintWords Go.Proofs.YtcgpibbbkdhpeaaW.PrintLast Go.Proofs.YtcgpibbbkdhpeaaW.Pl Classical
set_option linter.unusedSimpArgs false

theorem rdI (l : List Int) (i : Nat) : rd l (i : Int) = nth l i 0 := by unfold rd nth; simp
end Go.Proofs.Ytcgpibbbkdhpeaa.M

namespace Go.Proofs.Ytcgpibbbkdhpeaa.M
open Go.RowKit Go.Proofs.Ytcgpibbbkdhpeaa.Q Go.Proofs.YtcgpibbbkdhpeaaW.PrintWords Go.Proofs.YtcgpibbbkdhpeaaW.PrintLast Go.Proofs.YtcgpibbbkdhpeaaW.Pl Classical
set_option linter.unusedSimpArgs false
set_option linter.unusedVariables false

/-- A valid job. -/
def okF (a b c d e : Int) : Bool := decide ((1 ≤ a ∧ a ≤ 99) ∧ (1 ≤ b ∧ b ≤ 500) ∧ (1 ≤ c ∧ c ≤ 400) ∧ (0 ≤ d ∧ d ≤ 4000) ∧ (0 ≤ e ∧ e ≤ 4000) ∧ d ≤ e)
def okJ (x : S51) : Bool := okF x.f0 x.f1 x.f2 x.f3 x.f4
def ascAt (l : List S51) (i : Nat) : Bool := decide (i = 0) || decide ((nth l (i - 1) z51).f0 < (nth l i z51).f0)
/-- Valid jobs, in order. -/
def goodJ (l : List S51) : Bool := decide (l.length ≤ 6) && (List.range l.length).all fun i => okJ (nth l i z51) && ascAt l i
theorem goodJ_iff (l : List S51) : goodJ l = true ↔ l.length ≤ 6 ∧ ∀ i, i < l.length → (okJ (nth l i z51) && ascAt l i) = true := by
  unfold goodJ
  rw [Bool.and_eq_true, decide_eq_true_iff, range_all]
end Go.Proofs.Ytcgpibbbkdhpeaa.M

namespace Go.Proofs.Ytcgpibbbkdhpeaa.Q
open Go.RowKit Go.Proofs.YtcgpibbbkdhpeaaW.PrintWords Go.Proofs.YtcgpibbbkdhpeaaW.PrintLast Go.Proofs.YtcgpibbbkdhpeaaW.PrintMore
set_option linter.unusedVariables false
set_option linter.unusedSimpArgs false

/-! ### impl_LoomJob_isValid: function 50 -/
def impl_LoomJob_isValid.f (a0_0 : Int) (a0_1 : Int) (a0_2 : Int) (a0_3 : Int) (a0_4 : Int) : Option (Bool) := (impl_isId.f a0_0).bind fun t212 => (if t212 = true then ((impl_isJobWide.f a0_1).bind fun t213 => (if t213 = true then ((impl_in.f a0_2 1 400).bind fun t214 => (if t214 = true then ((impl_isDay.f a0_3).bind fun t215 => (if t215 = true then ((impl_isDay.f a0_4).bind fun t216 => (if t216 = true then (some (decide (a0_3 ≤ a0_4))) else (some false))) else (some false))) else (some false))) else (some false))) else (some false))
set_option maxHeartbeats 8000000 in
set_option maxRecDepth 100000 in
theorem impl_LoomJob_isValid.calls (a0_0 : Int) (a0_1 : Int) (a0_2 : Int) (a0_3 : Int) (a0_4 : Int) (r : Bool) (w : World) (h : impl_LoomJob_isValid.f a0_0 a0_1 a0_2 a0_3 a0_4 = some r) :
  Calls Try.prog 50 #[.agg #[.int .i64 a0_0, .int .i64 a0_1, .int .i64 a0_2, .int .i64 a0_3, .int .i64 a0_4]] w fun e w' => e = .returned (.bool r) ∧ Below w.heap.size w w' := by
 have hu51 := Try.underlying51
 have HB := Aside0.mk (Below.refl w.heap.size w)
 have H : ((impl_isId.f a0_0).bind fun t212 => (if t212 = true then ((impl_isJobWide.f a0_1).bind fun t213 => (if t213 = true then ((impl_in.f a0_2 1 400).bind fun t214 => (if t214 = true then ((impl_isDay.f a0_3).bind fun t215 => (if t215 = true then ((impl_isDay.f a0_4).bind fun t216 => (if t216 = true then (some (decide (a0_3 ≤ a0_4))) else (some false))) else (some false))) else (some false))) else (some false))) else (some false))) = some r := h
 clear h
 replace H := Option.bind_eq_some_iff.mp H
 obtain ⟨t212, A20, H⟩ := H
 have A2 := Aside0.mk A20
 clear A20
 by_cases c3 : t212 = true
 ·subst c3
  rw [if_pos rfl] at H
  replace H := Option.bind_eq_some_iff.mp H
  obtain ⟨t213, A40, H⟩ := H
  have A4 := Aside0.mk A40
  clear A40
  by_cases c5 : t213 = true
  ·subst c5
   rw [if_pos rfl] at H
   replace H := Option.bind_eq_some_iff.mp H
   obtain ⟨t214, A60, H⟩ := H
   have A6 := Aside0.mk A60
   clear A60
   by_cases c7 : t214 = true
   ·subst c7
    rw [if_pos rfl] at H
    replace H := Option.bind_eq_some_iff.mp H
    obtain ⟨t215, A80, H⟩ := H
    have A8 := Aside0.mk A80
    clear A80
    by_cases c9 : t215 = true
    ·subst c9
     rw [if_pos rfl] at H
     replace H := Option.bind_eq_some_iff.mp H
     obtain ⟨t216, A100, H⟩ := H
     have A10 := Aside0.mk A100
     clear A100
     by_cases c11 : t216 = true
     ·subst c11
      rw [if_pos rfl] at H
      obtain rfl := Option.some.inj H
      go_enter Try.func50, Try.ntmps50
      go_wp2_with (first | ((with_reducible refine gate_dst (N := 1) rfl ?_); refine box_event ?hg (N := 1) ?hd (cs := #[.int .i64 a0_0, .int .i64 a0_1, .int .i64 a0_2, .int .i64 a0_3, .int .i64 a0_4]) (t := 51) ?hr ?_; (case hd => rfl); (case hg => rfl); (case hr => first | (go_simp; done) | (go_simp; rfl)); intro gb211 hg w12 hbox hb; have n0_ := Aside0.mk (below_step (by repeat (first | (with_reducible first | exact HB.out | apply below_alloc | apply pw_below_drewN | apply below_drew1) | exact HB.out)) hb); have n1_ := Aside0.mk (hbox); have n2_ := Aside0.mk ((by rw [hg]; exact (below_size (by repeat (first | (with_reducible first | exact HB.out | apply below_alloc | apply pw_below_drewN | apply below_drew1) | exact HB.out))) : w.heap.size ≤ gb211)); have n3_ := Aside0.mk ((by rw [hg]; exact (below_size (by repeat (first | (with_reducible first | exact HB.out | apply below_alloc | apply pw_below_drewN | apply below_drew1) | exact HB.out))) : w.heap.size ≤ gb211)); clear HB; have HB := n0_; have BK211 := n1_; have GW211 := n2_; have GE211 := n3_; clear n0_ n1_ n2_ n3_; clear hb hbox hg; have hcz13_0 : w12.cell? ⟨gb211, 0, none⟩ = some (.int .i64 a0_0) := (blk_cell BK211.out 0).trans rfl; have hcz13_1 : w12.cell? ⟨gb211, 1, none⟩ = some (.int .i64 a0_1) := (blk_cell BK211.out 1).trans rfl; have hcz13_2 : w12.cell? ⟨gb211, 2, none⟩ = some (.int .i64 a0_2) := (blk_cell BK211.out 2).trans rfl; have hcz13_3 : w12.cell? ⟨gb211, 3, none⟩ = some (.int .i64 a0_3) := (blk_cell BK211.out 3).trans rfl; have hcz13_4 : w12.cell? ⟨gb211, 4, none⟩ = some (.int .i64 a0_4) := (blk_cell BK211.out 4).trans rfl; have hfz13_0 := blk_frozen BK211.out 0; have hfz13_1 := blk_frozen BK211.out 1; have hfz13_2 := blk_frozen BK211.out 2; have hfz13_3 := blk_frozen BK211.out 3; have hfz13_4 := blk_frozen BK211.out 4) | ((with_reducible refine gate_callee (f := 82) rfl ?_); refine goesL_ (some 5) rfl rfl Try.func82 (by kernel_rfl) rfl #[.int .i64 a0_0] rfl (by (try simp only [List.map_toArray, List.map_cons, List.map_nil]); first | done | rfl | (simp only [List.length_drop, List.length_take]; rfl)) ?_; (with_reducible refine (impl_isId.calls a0_0 true _ A2.out).mono ?_); rintro e w' ⟨rfl, ⟨nd, rfl⟩⟩; refine ⟨_, rfl, ?_⟩) | (go_at_call 83; (with_reducible refine (impl_isJobWide.calls a0_1 true _ A4.out).mono ?_); rintro e w' ⟨rfl, ⟨nd, rfl⟩⟩) | (go_at_call 62; (with_reducible refine (impl_in.calls a0_2 1 400 true _ A6.out).mono ?_); rintro e w' ⟨rfl, ⟨nd, rfl⟩⟩) | (go_at_call 84; (with_reducible refine (impl_isDay.calls a0_3 true _ A8.out).mono ?_); rintro e w' ⟨rfl, ⟨nd, rfl⟩⟩) | (go_at_call 84; (with_reducible refine (impl_isDay.calls a0_4 true _ A10.out).mono ?_); rintro e w' ⟨rfl, ⟨nd, rfl⟩⟩))
      go_ret
      exact ⟨by first | rfl | (simp [errW_none, errW_some] <;> rfl) | (simp [*, errW_none, errW_some] <;> rfl) | (simp [wrap64]; done), by repeat (first | (with_reducible first | exact HB.out | apply below_alloc | apply pw_below_drewN | apply below_drew1 | refine below_set ?_ GE211.out) | exact HB.out)⟩
     ·replace c11 := Bool.eq_false_iff.mpr c11
      subst c11
      rw [if_neg (show ¬ (false = true) by decide)] at H
      obtain rfl := Option.some.inj H
      go_enter Try.func50, Try.ntmps50
      go_wp2_with (first | ((with_reducible refine gate_dst (N := 1) rfl ?_); refine box_event ?hg (N := 1) ?hd (cs := #[.int .i64 a0_0, .int .i64 a0_1, .int .i64 a0_2, .int .i64 a0_3, .int .i64 a0_4]) (t := 51) ?hr ?_; (case hd => rfl); (case hg => rfl); (case hr => first | (go_simp; done) | (go_simp; rfl)); intro gb211 hg w14 hbox hb; have n0_ := Aside0.mk (below_step (by repeat (first | (with_reducible first | exact HB.out | apply below_alloc | apply pw_below_drewN | apply below_drew1) | exact HB.out)) hb); have n1_ := Aside0.mk (hbox); have n2_ := Aside0.mk ((by rw [hg]; exact (below_size (by repeat (first | (with_reducible first | exact HB.out | apply below_alloc | apply pw_below_drewN | apply below_drew1) | exact HB.out))) : w.heap.size ≤ gb211)); have n3_ := Aside0.mk ((by rw [hg]; exact (below_size (by repeat (first | (with_reducible first | exact HB.out | apply below_alloc | apply pw_below_drewN | apply below_drew1) | exact HB.out))) : w.heap.size ≤ gb211)); clear HB; have HB := n0_; have BK211 := n1_; have GW211 := n2_; have GE211 := n3_; clear n0_ n1_ n2_ n3_; clear hb hbox hg; have hcz15_0 : w14.cell? ⟨gb211, 0, none⟩ = some (.int .i64 a0_0) := (blk_cell BK211.out 0).trans rfl; have hcz15_1 : w14.cell? ⟨gb211, 1, none⟩ = some (.int .i64 a0_1) := (blk_cell BK211.out 1).trans rfl; have hcz15_2 : w14.cell? ⟨gb211, 2, none⟩ = some (.int .i64 a0_2) := (blk_cell BK211.out 2).trans rfl; have hcz15_3 : w14.cell? ⟨gb211, 3, none⟩ = some (.int .i64 a0_3) := (blk_cell BK211.out 3).trans rfl; have hcz15_4 : w14.cell? ⟨gb211, 4, none⟩ = some (.int .i64 a0_4) := (blk_cell BK211.out 4).trans rfl; have hfz15_0 := blk_frozen BK211.out 0; have hfz15_1 := blk_frozen BK211.out 1; have hfz15_2 := blk_frozen BK211.out 2; have hfz15_3 := blk_frozen BK211.out 3; have hfz15_4 := blk_frozen BK211.out 4) | ((with_reducible refine gate_callee (f := 82) rfl ?_); refine goesL_ (some 5) rfl rfl Try.func82 (by kernel_rfl) rfl #[.int .i64 a0_0] rfl (by (try simp only [List.map_toArray, List.map_cons, List.map_nil]); first | done | rfl | (simp only [List.length_drop, List.length_take]; rfl)) ?_; (with_reducible refine (impl_isId.calls a0_0 true _ A2.out).mono ?_); rintro e w' ⟨rfl, ⟨nd, rfl⟩⟩; refine ⟨_, rfl, ?_⟩) | (go_at_call 83; (with_reducible refine (impl_isJobWide.calls a0_1 true _ A4.out).mono ?_); rintro e w' ⟨rfl, ⟨nd, rfl⟩⟩) | (go_at_call 62; (with_reducible refine (impl_in.calls a0_2 1 400 true _ A6.out).mono ?_); rintro e w' ⟨rfl, ⟨nd, rfl⟩⟩) | (go_at_call 84; (with_reducible refine (impl_isDay.calls a0_3 true _ A8.out).mono ?_); rintro e w' ⟨rfl, ⟨nd, rfl⟩⟩) | (go_at_call 84; (with_reducible refine (impl_isDay.calls a0_4 false _ A10.out).mono ?_); rintro e w' ⟨rfl, ⟨nd, rfl⟩⟩))
      go_ret
      exact ⟨by first | rfl | (simp [errW_none, errW_some] <;> rfl) | (simp [*, errW_none, errW_some] <;> rfl) | (simp [wrap64]; done), by repeat (first | (with_reducible first | exact HB.out | apply below_alloc | apply pw_below_drewN | apply below_drew1 | refine below_set ?_ GE211.out) | exact HB.out)⟩
    ·replace c9 := Bool.eq_false_iff.mpr c9
     subst c9
     rw [if_neg (show ¬ (false = true) by decide)] at H
     obtain rfl := Option.some.inj H
     go_enter Try.func50, Try.ntmps50
     go_wp2_with (first | ((with_reducible refine gate_dst (N := 1) rfl ?_); refine box_event ?hg (N := 1) ?hd (cs := #[.int .i64 a0_0, .int .i64 a0_1, .int .i64 a0_2, .int .i64 a0_3, .int .i64 a0_4]) (t := 51) ?hr ?_; (case hd => rfl); (case hg => rfl); (case hr => first | (go_simp; done) | (go_simp; rfl)); intro gb211 hg w16 hbox hb; have n0_ := Aside0.mk (below_step (by repeat (first | (with_reducible first | exact HB.out | apply below_alloc | apply pw_below_drewN | apply below_drew1) | exact HB.out)) hb); have n1_ := Aside0.mk (hbox); have n2_ := Aside0.mk ((by rw [hg]; exact (below_size (by repeat (first | (with_reducible first | exact HB.out | apply below_alloc | apply pw_below_drewN | apply below_drew1) | exact HB.out))) : w.heap.size ≤ gb211)); have n3_ := Aside0.mk ((by rw [hg]; exact (below_size (by repeat (first | (with_reducible first | exact HB.out | apply below_alloc | apply pw_below_drewN | apply below_drew1) | exact HB.out))) : w.heap.size ≤ gb211)); clear HB; have HB := n0_; have BK211 := n1_; have GW211 := n2_; have GE211 := n3_; clear n0_ n1_ n2_ n3_; clear hb hbox hg; have hcz17_0 : w16.cell? ⟨gb211, 0, none⟩ = some (.int .i64 a0_0) := (blk_cell BK211.out 0).trans rfl; have hcz17_1 : w16.cell? ⟨gb211, 1, none⟩ = some (.int .i64 a0_1) := (blk_cell BK211.out 1).trans rfl; have hcz17_2 : w16.cell? ⟨gb211, 2, none⟩ = some (.int .i64 a0_2) := (blk_cell BK211.out 2).trans rfl; have hcz17_3 : w16.cell? ⟨gb211, 3, none⟩ = some (.int .i64 a0_3) := (blk_cell BK211.out 3).trans rfl; have hcz17_4 : w16.cell? ⟨gb211, 4, none⟩ = some (.int .i64 a0_4) := (blk_cell BK211.out 4).trans rfl; have hfz17_0 := blk_frozen BK211.out 0; have hfz17_1 := blk_frozen BK211.out 1; have hfz17_2 := blk_frozen BK211.out 2; have hfz17_3 := blk_frozen BK211.out 3; have hfz17_4 := blk_frozen BK211.out 4) | ((with_reducible refine gate_callee (f := 82) rfl ?_); refine goesL_ (some 5) rfl rfl Try.func82 (by kernel_rfl) rfl #[.int .i64 a0_0] rfl (by (try simp only [List.map_toArray, List.map_cons, List.map_nil]); first | done | rfl | (simp only [List.length_drop, List.length_take]; rfl)) ?_; (with_reducible refine (impl_isId.calls a0_0 true _ A2.out).mono ?_); rintro e w' ⟨rfl, ⟨nd, rfl⟩⟩; refine ⟨_, rfl, ?_⟩) | (go_at_call 83; (with_reducible refine (impl_isJobWide.calls a0_1 true _ A4.out).mono ?_); rintro e w' ⟨rfl, ⟨nd, rfl⟩⟩) | (go_at_call 62; (with_reducible refine (impl_in.calls a0_2 1 400 true _ A6.out).mono ?_); rintro e w' ⟨rfl, ⟨nd, rfl⟩⟩) | (go_at_call 84; (with_reducible refine (impl_isDay.calls a0_3 false _ A8.out).mono ?_); rintro e w' ⟨rfl, ⟨nd, rfl⟩⟩))
     go_ret
     exact ⟨by first | rfl | (simp [errW_none, errW_some] <;> rfl) | (simp [*, errW_none, errW_some] <;> rfl) | (simp [wrap64]; done), by repeat (first | (with_reducible first | exact HB.out | apply below_alloc | apply pw_below_drewN | apply below_drew1 | refine below_set ?_ GE211.out) | exact HB.out)⟩
   ·replace c7 := Bool.eq_false_iff.mpr c7
    subst c7
    rw [if_neg (show ¬ (false = true) by decide)] at H
    obtain rfl := Option.some.inj H
    go_enter Try.func50, Try.ntmps50
    go_wp2_with (first | ((with_reducible refine gate_dst (N := 1) rfl ?_); refine box_event ?hg (N := 1) ?hd (cs := #[.int .i64 a0_0, .int .i64 a0_1, .int .i64 a0_2, .int .i64 a0_3, .int .i64 a0_4]) (t := 51) ?hr ?_; (case hd => rfl); (case hg => rfl); (case hr => first | (go_simp; done) | (go_simp; rfl)); intro gb211 hg w18 hbox hb; have n0_ := Aside0.mk (below_step (by repeat (first | (with_reducible first | exact HB.out | apply below_alloc | apply pw_below_drewN | apply below_drew1) | exact HB.out)) hb); have n1_ := Aside0.mk (hbox); have n2_ := Aside0.mk ((by rw [hg]; exact (below_size (by repeat (first | (with_reducible first | exact HB.out | apply below_alloc | apply pw_below_drewN | apply below_drew1) | exact HB.out))) : w.heap.size ≤ gb211)); have n3_ := Aside0.mk ((by rw [hg]; exact (below_size (by repeat (first | (with_reducible first | exact HB.out | apply below_alloc | apply pw_below_drewN | apply below_drew1) | exact HB.out))) : w.heap.size ≤ gb211)); clear HB; have HB := n0_; have BK211 := n1_; have GW211 := n2_; have GE211 := n3_; clear n0_ n1_ n2_ n3_; clear hb hbox hg; have hcz19_0 : w18.cell? ⟨gb211, 0, none⟩ = some (.int .i64 a0_0) := (blk_cell BK211.out 0).trans rfl; have hcz19_1 : w18.cell? ⟨gb211, 1, none⟩ = some (.int .i64 a0_1) := (blk_cell BK211.out 1).trans rfl; have hcz19_2 : w18.cell? ⟨gb211, 2, none⟩ = some (.int .i64 a0_2) := (blk_cell BK211.out 2).trans rfl; have hcz19_3 : w18.cell? ⟨gb211, 3, none⟩ = some (.int .i64 a0_3) := (blk_cell BK211.out 3).trans rfl; have hcz19_4 : w18.cell? ⟨gb211, 4, none⟩ = some (.int .i64 a0_4) := (blk_cell BK211.out 4).trans rfl; have hfz19_0 := blk_frozen BK211.out 0; have hfz19_1 := blk_frozen BK211.out 1; have hfz19_2 := blk_frozen BK211.out 2; have hfz19_3 := blk_frozen BK211.out 3; have hfz19_4 := blk_frozen BK211.out 4) | ((with_reducible refine gate_callee (f := 82) rfl ?_); refine goesL_ (some 5) rfl rfl Try.func82 (by kernel_rfl) rfl #[.int .i64 a0_0] rfl (by (try simp only [List.map_toArray, List.map_cons, List.map_nil]); first | done | rfl | (simp only [List.length_drop, List.length_take]; rfl)) ?_; (with_reducible refine (impl_isId.calls a0_0 true _ A2.out).mono ?_); rintro e w' ⟨rfl, ⟨nd, rfl⟩⟩; refine ⟨_, rfl, ?_⟩) | (go_at_call 83; (with_reducible refine (impl_isJobWide.calls a0_1 true _ A4.out).mono ?_); rintro e w' ⟨rfl, ⟨nd, rfl⟩⟩) | (go_at_call 62; (with_reducible refine (impl_in.calls a0_2 1 400 false _ A6.out).mono ?_); rintro e w' ⟨rfl, ⟨nd, rfl⟩⟩))
    go_ret
    exact ⟨by first | rfl | (simp [errW_none, errW_some] <;> rfl) | (simp [*, errW_none, errW_some] <;> rfl) | (simp [wrap64]; done), by repeat (first | (with_reducible first | exact HB.out | apply below_alloc | apply pw_below_drewN | apply below_drew1 | refine below_set ?_ GE211.out) | exact HB.out)⟩
  ·replace c5 := Bool.eq_false_iff.mpr c5
   subst c5
   rw [if_neg (show ¬ (false = true) by decide)] at H
   obtain rfl := Option.some.inj H
   go_enter Try.func50, Try.ntmps50
   go_wp2_with (first | ((with_reducible refine gate_dst (N := 1) rfl ?_); refine box_event ?hg (N := 1) ?hd (cs := #[.int .i64 a0_0, .int .i64 a0_1, .int .i64 a0_2, .int .i64 a0_3, .int .i64 a0_4]) (t := 51) ?hr ?_; (case hd => rfl); (case hg => rfl); (case hr => first | (go_simp; done) | (go_simp; rfl)); intro gb211 hg w20 hbox hb; have n0_ := Aside0.mk (below_step (by repeat (first | (with_reducible first | exact HB.out | apply below_alloc | apply pw_below_drewN | apply below_drew1) | exact HB.out)) hb); have n1_ := Aside0.mk (hbox); have n2_ := Aside0.mk ((by rw [hg]; exact (below_size (by repeat (first | (with_reducible first | exact HB.out | apply below_alloc | apply pw_below_drewN | apply below_drew1) | exact HB.out))) : w.heap.size ≤ gb211)); have n3_ := Aside0.mk ((by rw [hg]; exact (below_size (by repeat (first | (with_reducible first | exact HB.out | apply below_alloc | apply pw_below_drewN | apply below_drew1) | exact HB.out))) : w.heap.size ≤ gb211)); clear HB; have HB := n0_; have BK211 := n1_; have GW211 := n2_; have GE211 := n3_; clear n0_ n1_ n2_ n3_; clear hb hbox hg; have hcz21_0 : w20.cell? ⟨gb211, 0, none⟩ = some (.int .i64 a0_0) := (blk_cell BK211.out 0).trans rfl; have hcz21_1 : w20.cell? ⟨gb211, 1, none⟩ = some (.int .i64 a0_1) := (blk_cell BK211.out 1).trans rfl; have hcz21_2 : w20.cell? ⟨gb211, 2, none⟩ = some (.int .i64 a0_2) := (blk_cell BK211.out 2).trans rfl; have hcz21_3 : w20.cell? ⟨gb211, 3, none⟩ = some (.int .i64 a0_3) := (blk_cell BK211.out 3).trans rfl; have hcz21_4 : w20.cell? ⟨gb211, 4, none⟩ = some (.int .i64 a0_4) := (blk_cell BK211.out 4).trans rfl; have hfz21_0 := blk_frozen BK211.out 0; have hfz21_1 := blk_frozen BK211.out 1; have hfz21_2 := blk_frozen BK211.out 2; have hfz21_3 := blk_frozen BK211.out 3; have hfz21_4 := blk_frozen BK211.out 4) | ((with_reducible refine gate_callee (f := 82) rfl ?_); refine goesL_ (some 5) rfl rfl Try.func82 (by kernel_rfl) rfl #[.int .i64 a0_0] rfl (by (try simp only [List.map_toArray, List.map_cons, List.map_nil]); first | done | rfl | (simp only [List.length_drop, List.length_take]; rfl)) ?_; (with_reducible refine (impl_isId.calls a0_0 true _ A2.out).mono ?_); rintro e w' ⟨rfl, ⟨nd, rfl⟩⟩; refine ⟨_, rfl, ?_⟩) | (go_at_call 83; (with_reducible refine (impl_isJobWide.calls a0_1 false _ A4.out).mono ?_); rintro e w' ⟨rfl, ⟨nd, rfl⟩⟩))
   go_ret
   exact ⟨by first | rfl | (simp [errW_none, errW_some] <;> rfl) | (simp [*, errW_none, errW_some] <;> rfl) | (simp [wrap64]; done), by repeat (first | (with_reducible first | exact HB.out | apply below_alloc | apply pw_below_drewN | apply below_drew1 | refine below_set ?_ GE211.out) | exact HB.out)⟩
 ·replace c3 := Bool.eq_false_iff.mpr c3
  subst c3
  rw [if_neg (show ¬ (false = true) by decide)] at H
  obtain rfl := Option.some.inj H
  go_enter Try.func50, Try.ntmps50
  go_wp2_with (first | ((with_reducible refine gate_dst (N := 1) rfl ?_); refine box_event ?hg (N := 1) ?hd (cs := #[.int .i64 a0_0, .int .i64 a0_1, .int .i64 a0_2, .int .i64 a0_3, .int .i64 a0_4]) (t := 51) ?hr ?_; (case hd => rfl); (case hg => rfl); (case hr => first | (go_simp; done) | (go_simp; rfl)); intro gb211 hg w22 hbox hb; have n0_ := Aside0.mk (below_step (by repeat (first | (with_reducible first | exact HB.out | apply below_alloc | apply pw_below_drewN | apply below_drew1) | exact HB.out)) hb); have n1_ := Aside0.mk (hbox); have n2_ := Aside0.mk ((by rw [hg]; exact (below_size (by repeat (first | (with_reducible first | exact HB.out | apply below_alloc | apply pw_below_drewN | apply below_drew1) | exact HB.out))) : w.heap.size ≤ gb211)); have n3_ := Aside0.mk ((by rw [hg]; exact (below_size (by repeat (first | (with_reducible first | exact HB.out | apply below_alloc | apply pw_below_drewN | apply below_drew1) | exact HB.out))) : w.heap.size ≤ gb211)); clear HB; have HB := n0_; have BK211 := n1_; have GW211 := n2_; have GE211 := n3_; clear n0_ n1_ n2_ n3_; clear hb hbox hg; have hcz23_0 : w22.cell? ⟨gb211, 0, none⟩ = some (.int .i64 a0_0) := (blk_cell BK211.out 0).trans rfl; have hcz23_1 : w22.cell? ⟨gb211, 1, none⟩ = some (.int .i64 a0_1) := (blk_cell BK211.out 1).trans rfl; have hcz23_2 : w22.cell? ⟨gb211, 2, none⟩ = some (.int .i64 a0_2) := (blk_cell BK211.out 2).trans rfl; have hcz23_3 : w22.cell? ⟨gb211, 3, none⟩ = some (.int .i64 a0_3) := (blk_cell BK211.out 3).trans rfl; have hcz23_4 : w22.cell? ⟨gb211, 4, none⟩ = some (.int .i64 a0_4) := (blk_cell BK211.out 4).trans rfl; have hfz23_0 := blk_frozen BK211.out 0; have hfz23_1 := blk_frozen BK211.out 1; have hfz23_2 := blk_frozen BK211.out 2; have hfz23_3 := blk_frozen BK211.out 3; have hfz23_4 := blk_frozen BK211.out 4) | ((with_reducible refine gate_callee (f := 82) rfl ?_); refine goesL_ (some 5) rfl rfl Try.func82 (by kernel_rfl) rfl #[.int .i64 a0_0] rfl (by (try simp only [List.map_toArray, List.map_cons, List.map_nil]); first | done | rfl | (simp only [List.length_drop, List.length_take]; rfl)) ?_; (with_reducible refine (impl_isId.calls a0_0 false _ A2.out).mono ?_); rintro e w' ⟨rfl, ⟨nd, rfl⟩⟩; refine ⟨_, rfl, ?_⟩))
  go_ret
  exact ⟨by first | rfl | (simp [errW_none, errW_some] <;> rfl) | (simp [*, errW_none, errW_some] <;> rfl) | (simp [wrap64]; done), by repeat (first | (with_reducible first | exact HB.out | apply below_alloc | apply pw_below_drewN | apply below_drew1 | refine below_set ?_ GE211.out) | exact HB.out)⟩

end Go.Proofs.Ytcgpibbbkdhpeaa.Q

namespace Go.Proofs.Ytcgpibbbkdhpeaa.Q
open Go.RowKit Go.Proofs.YtcgpibbbkdhpeaaW.PrintWords Go.Proofs.YtcgpibbbkdhpeaaW.PrintLast Go.Proofs.YtcgpibbbkdhpeaaW.PrintMore
set_option linter.unusedVariables false
set_option linter.unusedSimpArgs false

/-! ### impl_LoomJob_49__impl_LoomJob_isValid: function 1000049 -/
def impl_LoomJob_49__impl_LoomJob_isValid.f (l : List S51)  : Option Bool := (l.mapM (fun x : S51 => impl_LoomJob_isValid.f (x.f0) (x.f1) (x.f2) (x.f3) (x.f4))).map (fun bs => bs.all id)
theorem impl_LoomJob_49__impl_LoomJob_isValid.calls (A0 : Option Addr) (c0 : Nat) (l0 : List S51)  (r : Bool) (w : World) (hr0 : Kd.C k51 w A0 l0.length l0) (hc0 : l0.length ≤ c0)  (h : impl_LoomJob_49__impl_LoomJob_isValid.f l0  = some r) :
  Calls Try.prog 49 #[.slice A0 l0.length c0, .func (.func 50) #[] #[]] w fun e w' => e = .returned (.bool r) ∧ Below w.heap.size w w' := by
 obtain ⟨p, hp, rfl⟩ := all_pred h
 refine all_49 50 (enters_of Try.func50 (by kernel_rfl) rfl) p A0 c0 l0 w hr0 (fun x hx W cs hb hk => ?_)
 obtain rfl := k51_open hk
 exact (impl_LoomJob_isValid.calls (r := p x) (w := W) (h := hp x hx)).mono fun e w' hh => ⟨hh.1, hh.2⟩

end Go.Proofs.Ytcgpibbbkdhpeaa.Q

namespace Go.Proofs.Ytcgpibbbkdhpeaa.Q
open Go.RowKit Go.Proofs.YtcgpibbbkdhpeaaW.PrintWords Go.Proofs.YtcgpibbbkdhpeaaW.PrintLast Go.Proofs.YtcgpibbbkdhpeaaW.PrintMore
set_option linter.unusedVariables false
set_option linter.unusedSimpArgs false

/-! ### impl_LoomJob_51__impl_AreJobs_1: function 1000051 -/
abbrev D0_1000051 : Array Bool := #[false, false, false, false, false, false, false, false, false, false, false, false, false, false]
abbrev D1_1000051 : Array Bool := #[true, false, false, false, false, false, false, false, false, false, false, false, false, false]
abbrev D2_1000051 : Array Bool := #[true, true, false, false, false, false, false, false, false, false, false, false, false, false]
abbrev D3_1000051 : Array Bool := #[true, true, true, false, false, false, false, false, false, false, false, false, false, false]
abbrev D4_1000051 : Array Bool := #[true, true, true, true, false, false, false, false, false, false, false, false, false, false]
abbrev D5_1000051 : Array Bool := #[true, true, true, true, true, false, false, false, false, false, false, false, false, false]
abbrev D6_1000051 : Array Bool := #[true, true, true, true, true, false, false, true, false, false, false, false, false, false]
abbrev D7_1000051 : Array Bool := #[true, true, true, true, true, false, false, true, true, false, false, false, false, false]
abbrev D8_1000051 : Array Bool := #[true, true, true, true, true, false, false, true, true, true, false, false, false, false]
abbrev D9_1000051 : Array Bool := #[true, true, true, true, true, false, false, true, true, true, true, false, false, false]
abbrev D10_1000051 : Array Bool := #[true, true, true, true, true, true, false, true, true, true, true, false, false, false]
abbrev D11_1000051 : Array Bool := #[true, true, true, true, true, true, false, true, true, true, true, true, false, false]
abbrev D12_1000051 : Array Bool := #[true, true, true, true, true, true, true, true, true, true, true, true, false, false]
abbrev D13_1000051 : Array Bool := #[true, true, true, true, true, true, true, true, true, true, true, true, true, false]
abbrev D14_1000051 : Array Bool := #[true, true, true, true, true, true, true, true, true, true, true, true, true, true]
def impl_LoomJob_51__impl_AreJobs_1.l0 : Nat → List (S51) → Int → Option (Bool)
 | 0, _, _ => none
 | k + 1, x0, x5 => if x5 < (x0.length : Int) then (if 0 ≤ (wrap64 (x5 - 1)) then (if (wrap64 (x5 - 1)) < (x0.length : Int) then ((impl_AreJobs_1.f ((rd_T51 x0 (wrap64 (x5 - 1))).f0) ((rd_T51 x0 (wrap64 (x5 - 1))).f1) ((rd_T51 x0 (wrap64 (x5 - 1))).f2) ((rd_T51 x0 (wrap64 (x5 - 1))).f3) ((rd_T51 x0 (wrap64 (x5 - 1))).f4)).bind fun t219 => (if 0 ≤ x5 then ((impl_AreJobs_1.f ((rd_T51 x0 x5).f0) ((rd_T51 x0 x5).f1) ((rd_T51 x0 x5).f2) ((rd_T51 x0 x5).f3) ((rd_T51 x0 x5).f4)).bind fun t221 => (if t219 ≥ t221 then (some false) else (impl_LoomJob_51__impl_AreJobs_1.l0 k x0 (wrap64 (x5 + 1))))) else (none))) else (none)) else (none)) else (some true)
def impl_LoomJob_51__impl_AreJobs_1.f (k : Nat) (l0 : List (S51))  : Option (Bool) := impl_LoomJob_51__impl_AreJobs_1.l0 k l0 1
def impl_LoomJob_51__impl_AreJobs_1.T4 : Bool × List (List Nat × List Nat) := (true, [([], []), ([], []), ([], []), ([2], [2]), ([1, 3], [1, 3]), ([4], [4]), ([0, 5], [0, 5]), ([], []), ([], []), ([], []), ([8, 9], [8, 9]), ([10], [10]), ([7, 11, 6], [7, 11]), ([6, 12], [6, 12])])
def impl_LoomJob_51__impl_AreJobs_1.B4 : List Nat := [0, 0, 0, 4, 14, 30, 63, 0, 0, 0, 768, 1792, 4095, 8191]
theorem impl_LoomJob_51__impl_AreJobs_1.tab4 : rtab .any (opsOf Try.f51 4) = impl_LoomJob_51__impl_AreJobs_1.T4 := by kernel_rfl
theorem impl_LoomJob_51__impl_AreJobs_1.bits4 : waitsOk impl_LoomJob_51__impl_AreJobs_1.T4.2 impl_LoomJob_51__impl_AreJobs_1.B4 = true := by kernel_rfl
set_option maxHeartbeats 8000000 in
set_option maxRecDepth 100000 in
theorem impl_LoomJob_51__impl_AreJobs_1.calls (k : Nat) (A0 : Option Addr) (c0 : Nat) (l0 : List (S51))  (r : Bool) (w : World) (hr0 : Kd.C k51 w A0 l0.length l0) (hc0 : l0.length ≤ c0) (h : impl_LoomJob_51__impl_AreJobs_1.f k l0 = some r) :
  Calls Try.prog 51 #[.slice A0 l0.length c0, .func (.func 52) #[] #[]] w fun e w' => e = .returned (.bool r) ∧ Below w.heap.size w w' := by
 have hu51 := Try.underlying51
 have HR0 := Aside0.mk hr0
 have HC0 := Aside0.mk hc0
 clear hr0 hc0
 have HB := Aside0.mk (Below.refl w.heap.size w)
 have H : (impl_LoomJob_51__impl_AreJobs_1.l0 k l0 1) = some r := h
 clear h
 have H' := Aside0.mk H
 clear H
 go_enter Try.func51, Try.ntmps51
 go_wp2
 go_loopg [5] k (fun kq v5 w' => ∃ (x5_1 : Int), v5 = .int .i64 x5_1 ∧ Aside0 (impl_LoomJob_51__impl_AreJobs_1.l0 kq l0 x5_1 = some r) ∧ Aside0 (kq ≤ k) ∧ Aside0 (Below w.heap.size w w'))
 case atStart => exact ⟨(1), (by first | rfl | (simp; done) | (simp [*]; done)), H', ⟨Nat.le_refl _⟩, ⟨by repeat (first | (with_reducible first | exact HB.out | apply below_alloc | apply pw_below_drewN | apply below_drew1) | exact HB.out)⟩⟩
 case round =>
  clear H'
  try clear p2
  obtain ⟨x5_1, rfl, HA, HK1, HB⟩ := hrel
  cases gk with
  | zero => exact absurd HA.out (by simp [impl_LoomJob_51__impl_AreJobs_1.l0])
  | succ k1 =>
   have H := HA.out
   clear HA
   simp only [impl_LoomJob_51__impl_AreJobs_1.l0] at H
   by_cases c3 : x5_1 < (l0.length : Int)
   ·rw [if_pos c3] at H
    have c3b0 : decide (x5_1 < (l0.length : Int)) = true := decide_eq_true c3
    clear c3
    obtain ⟨ji4, hji4⟩ : ∃ j_ : Int, (wrap64 (x5_1 - 1)) = j_ := ⟨_, rfl⟩
    replace H : (if 0 ≤ (ji4) then (if (ji4) < (l0.length : Int) then ((impl_AreJobs_1.f ((rd_T51 l0 (ji4)).f0) ((rd_T51 l0 (ji4)).f1) ((rd_T51 l0 (ji4)).f2) ((rd_T51 l0 (ji4)).f3) ((rd_T51 l0 (ji4)).f4)).bind fun t219 => (if 0 ≤ x5_1 then ((impl_AreJobs_1.f ((rd_T51 l0 x5_1).f0) ((rd_T51 l0 x5_1).f1) ((rd_T51 l0 x5_1).f2) ((rd_T51 l0 x5_1).f3) ((rd_T51 l0 x5_1).f4)).bind fun t221 => (if t219 ≥ t221 then (some false) else (impl_LoomJob_51__impl_AreJobs_1.l0 k1 l0 (wrap64 (x5_1 + 1))))) else (none))) else (none)) else (none)) = some r := by first | (rw [hji4] at H; exact H) | (simp only [hji4] at H ⊢; exact H)
    have hji4w : (IntKind.i64.wrap (x5_1 - 1)) = ji4 := (i64_w _).trans hji4
    by_cases c5 : 0 ≤ (ji4)
    ·rw [if_pos c5] at H
     have c5b0 : decide (0 ≤ (ji4)) = true := decide_eq_true c5
     clear c5
     by_cases c6 : (ji4) < (l0.length : Int)
     ·rw [if_pos c6] at H
      have c6b0 : decide ((ji4) < (l0.length : Int)) = true := decide_eq_true c6
      clear c6
      replace H := Option.bind_eq_some_iff.mp H
      obtain ⟨t219, A70, H⟩ := H
      have A7 := Aside0.mk A70
      clear A70
      by_cases c8 : 0 ≤ x5_1
      ·rw [if_pos c8] at H
       have c8b0 : decide (0 ≤ x5_1) = true := decide_eq_true c8
       clear c8
       replace H := Option.bind_eq_some_iff.mp H
       obtain ⟨t221, A90, H⟩ := H
       have A9 := Aside0.mk A90
       clear A90
       by_cases c10 : t219 ≥ t221
       ·rw [if_pos c10] at H
        have c10b0 : decide (t221 ≤ t219) = true := decide_eq_true c10
        clear c10
        obtain rfl := Option.some.inj H
        try go_wp2
        have n0_ := Aside0.mk (below_drew1 HB.out)
        clear HB
        have HB := n0_
        clear n0_
        have p218 : 0 ≤ ((ji4) : Int) := of_decide_eq_true (by first | (with_reducible assumption) | assumption)
        have q218 : (ji4) < (l0.length : Int) := of_decide_eq_true (by first | (with_reducible assumption) | assumption)
        obtain ⟨ad218, e218, hx218_0, hx218_1, hx218_2, hx218_3, hx218_4⟩ := at_T51 HR0.out (ji4) p218 q218
        have hw218_4 := hx218_4
        have hw218_3 := hx218_3
        have hw218_2 := hx218_2
        have hw218_1 := hx218_1
        have hw218_0 := hx218_0
        cases e218
        replace hx218_0 := (HB.out.cell (World.block_lt_of_cell? w _ hx218_0)).trans hx218_0
        replace hx218_1 := (HB.out.cell (World.block_lt_of_cell? w _ hx218_1)).trans hx218_1
        replace hx218_2 := (HB.out.cell (World.block_lt_of_cell? w _ hx218_2)).trans hx218_2
        replace hx218_3 := (HB.out.cell (World.block_lt_of_cell? w _ hx218_3)).trans hx218_3
        replace hx218_4 := (HB.out.cell (World.block_lt_of_cell? w _ hx218_4)).trans hx218_4
        replace p218 := eq_true p218
        replace q218 := eq_true q218
        have p220 : 0 ≤ (x5_1 : Int) := of_decide_eq_true (by first | (with_reducible assumption) | assumption)
        have q220 : x5_1 < (l0.length : Int) := of_decide_eq_true (by first | (with_reducible assumption) | assumption)
        obtain ⟨ad220, e220, hx220_0, hx220_1, hx220_2, hx220_3, hx220_4⟩ := at_T51 HR0.out x5_1 p220 q220
        have hw220_4 := hx220_4
        have hw220_3 := hx220_3
        have hw220_2 := hx220_2
        have hw220_1 := hx220_1
        have hw220_0 := hx220_0
        obtain rfl : ad218 = ad220 := (by injection e220)
        replace hx220_0 := (HB.out.cell (World.block_lt_of_cell? w _ hx220_0)).trans hx220_0
        replace hx220_1 := (HB.out.cell (World.block_lt_of_cell? w _ hx220_1)).trans hx220_1
        replace hx220_2 := (HB.out.cell (World.block_lt_of_cell? w _ hx220_2)).trans hx220_2
        replace hx220_3 := (HB.out.cell (World.block_lt_of_cell? w _ hx220_3)).trans hx220_3
        replace hx220_4 := (HB.out.cell (World.block_lt_of_cell? w _ hx220_4)).trans hx220_4
        replace p220 := eq_true p220
        replace q220 := eq_true q220
        refine start_ (n := 14) (S := fun w' => w'.cell? (ad218.add (((ji4)).toNat * 5)) = some (.int .i64 ((rd_T51 l0 (ji4)).f0)) ∧ w'.cell? ⟨(ad218.add (((ji4)).toNat * 5)).block, (ad218.add (((ji4)).toNat * 5)).off + 1, none⟩ = some (.int .i64 ((rd_T51 l0 (ji4)).f1)) ∧ w'.cell? ⟨(ad218.add (((ji4)).toNat * 5)).block, (ad218.add (((ji4)).toNat * 5)).off + 2, none⟩ = some (.int .i64 ((rd_T51 l0 (ji4)).f2)) ∧ w'.cell? ⟨(ad218.add (((ji4)).toNat * 5)).block, (ad218.add (((ji4)).toNat * 5)).off + 3, none⟩ = some (.int .i64 ((rd_T51 l0 (ji4)).f3)) ∧ w'.cell? ⟨(ad218.add (((ji4)).toNat * 5)).block, (ad218.add (((ji4)).toNat * 5)).off + 4, none⟩ = some (.int .i64 ((rd_T51 l0 (ji4)).f4)) ∧ w'.cell? (ad218.add ((x5_1).toNat * 5)) = some (.int .i64 ((rd_T51 l0 x5_1).f0)) ∧ w'.cell? ⟨(ad218.add ((x5_1).toNat * 5)).block, (ad218.add ((x5_1).toNat * 5)).off + 1, none⟩ = some (.int .i64 ((rd_T51 l0 x5_1).f1)) ∧ w'.cell? ⟨(ad218.add ((x5_1).toNat * 5)).block, (ad218.add ((x5_1).toNat * 5)).off + 2, none⟩ = some (.int .i64 ((rd_T51 l0 x5_1).f2)) ∧ w'.cell? ⟨(ad218.add ((x5_1).toNat * 5)).block, (ad218.add ((x5_1).toNat * 5)).off + 3, none⟩ = some (.int .i64 ((rd_T51 l0 x5_1).f3)) ∧ w'.cell? ⟨(ad218.add ((x5_1).toNat * 5)).block, (ad218.add ((x5_1).toNat * 5)).off + 4, none⟩ = some (.int .i64 ((rd_T51 l0 x5_1).f4))) (ds := []) D0_1000051 (by kernel_rfl) rfl rfl ⟨((HB.out.cell (World.block_lt_of_cell? w _ hw218_0)).trans hw218_0), ((HB.out.cell (World.block_lt_of_cell? w _ hw218_1)).trans hw218_1), ((HB.out.cell (World.block_lt_of_cell? w _ hw218_2)).trans hw218_2), ((HB.out.cell (World.block_lt_of_cell? w _ hw218_3)).trans hw218_3), ((HB.out.cell (World.block_lt_of_cell? w _ hw218_4)).trans hw218_4), ((HB.out.cell (World.block_lt_of_cell? w _ hw220_0)).trans hw220_0), ((HB.out.cell (World.block_lt_of_cell? w _ hw220_1)).trans hw220_1), ((HB.out.cell (World.block_lt_of_cell? w _ hw220_2)).trans hw220_2), ((HB.out.cell (World.block_lt_of_cell? w _ hw220_3)).trans hw220_3), ((HB.out.cell (World.block_lt_of_cell? w _ hw220_4)).trans hw220_4)⟩ (fun hHeld => ?_); refine with_tabW impl_LoomJob_51__impl_AreJobs_1.tab4 impl_LoomJob_51__impl_AreJobs_1.bits4 (fun HT_ HW_ => ?_)
        generalize wr.drew = w11 at HB hx218_0 hx218_1 hx218_2 hx218_3 hx218_4 hx220_0 hx220_1 hx220_2 hx220_3 hx220_4 hHeld ⊢
        refine pure_ (i := 0) (N := some 12) (v := ?_) (a' := ?_) D1_1000051 rfl rfl (any_of HT_.out (by kernel_rfl)) (fun _ _ _ h => h) (Or.inl ⟨by rfl, ?_⟩) ?_ ?_
        rotate_left
        ·intro w'
         go_simp
         with_reducible rfl
        rotate_left
        ·simp only [Act.put, sS_, sZ_, sC_, i64_w, i32_w]
         rfl
        refine pure_ (i := 1) (N := some 13) (v := ?_) (a' := ?_) D2_1000051 rfl rfl (any_of HT_.out (by kernel_rfl)) (fun _ _ _ h => h) (Or.inl ⟨by rfl, ?_⟩) ?_ ?_
        rotate_left
        ·intro w'
         go_simp
         with_reducible rfl
        rotate_left
        ·simp only [Act.put, sS_, sZ_, sC_, i64_w, i32_w]
         rfl
        refine pure_ (i := 2) (N := some 14) (v := ?_) (a' := ?_) D3_1000051 rfl rfl (any_of HT_.out (by kernel_rfl)) (fun _ _ _ h => h) (Or.inl ⟨by rfl, ?_⟩) ?_ ?_
        rotate_left
        ·intro w'
         go_simp
         with_reducible rfl
        rotate_left
        ·simp only [Act.put, sS_, sZ_, sC_, i64_w, i32_w]
         rfl
        refine pure_ (i := 3) (N := some 15) (v := ?_) (a' := ?_) D4_1000051 rfl rfl (any_of HT_.out (by kernel_rfl)) (fun _ _ _ h => h) (Or.inl ⟨by rfl, ?_⟩) ?_ ?_
        rotate_left
        ·intro w'
         go_simp
         with_reducible rfl
        rotate_left
        ·simp only [Act.put, sS_, sZ_, sC_, i64_w, i32_w]
         rfl
        refine pure_ (i := 4) (N := some 16) (v := ?_) (a' := ?_) D5_1000051 rfl rfl (any_of HT_.out (by kernel_rfl)) (fun _ _ _ h => h) (Or.inl ⟨by rfl, ?_⟩) ?_ ?_
        rotate_left
        ·intro w'
         go_simp
         with_reducible rfl
        rotate_left
        ·simp only [Act.put, sS_, sZ_, sC_, i64_w, i32_w]
         rfl
        refine pure_ (i := 7) (N := some 19) (v := ?_) (a' := ?_) D6_1000051 rfl rfl (any_of HT_.out (by kernel_rfl)) (fun _ _ _ h => h) (Or.inl ⟨by rfl, ?_⟩) ?_ ?_
        rotate_left
        ·intro w'
         go_simp
         with_reducible rfl
        rotate_left
        ·simp only [Act.put, sS_, sZ_, sC_, i64_w, i32_w]
         rfl
        refine pure_ (i := 8) (N := some 20) (v := ?_) (a' := ?_) D7_1000051 rfl rfl (any_of HT_.out (by kernel_rfl)) (fun _ _ _ h => h) (Or.inl ⟨by rfl, ?_⟩) ?_ ?_
        rotate_left
        ·intro w'
         go_simp
         with_reducible rfl
        rotate_left
        ·simp only [Act.put, sS_, sZ_, sC_, i64_w, i32_w]
         rfl
        refine pure_ (i := 9) (N := some 21) (v := ?_) (a' := ?_) D8_1000051 rfl rfl (any_of HT_.out (by kernel_rfl)) (fun _ _ _ h => h) (Or.inl ⟨by rfl, ?_⟩) ?_ ?_
        rotate_left
        ·intro w'
         go_simp
         with_reducible rfl
        rotate_left
        ·simp only [Act.put, sS_, sZ_, sC_, i64_w, i32_w]
         rfl
        refine pure_ (i := 10) (N := some 22) (v := ?_) (a' := ?_) D9_1000051 rfl rfl (any_of HT_.out (by kernel_rfl)) (fun _ _ _ h => h) (Or.inl ⟨by rfl, ?_⟩) ?_ ?_
        rotate_left
        ·intro w'
         go_simp
         with_reducible rfl
        rotate_left
        ·simp only [Act.put, sS_, sZ_, sC_, i64_w, i32_w]
         rfl
        refine take_ (i := 5) (N := some 17) (v := ?_) (a' := ?_) D10_1000051 rfl rfl (take_ofW HT_.out HW_.out (by kernel_rfl)) (fun _ _ _ h => h) (Or.inl ⟨by rfl, ?_⟩) hHeld ?_ ?_
        rotate_left
        ·rintro w' ⟨s0, s1, s2, s3, s4, s5, s6, s7, s8, s9⟩
         go_simp
         with_reducible rfl
        rotate_left
        ·simp only [Act.put, sS_, sZ_, sC_, i64_w, i32_w]
         rfl
        refine take_ (i := 11) (N := some 23) (v := ?_) (a' := ?_) D11_1000051 rfl rfl (take_ofW HT_.out HW_.out (by kernel_rfl)) (fun _ _ _ h => h) (Or.inl ⟨by rfl, ?_⟩) hHeld ?_ ?_
        rotate_left
        ·rintro w' ⟨s0, s1, s2, s3, s4, s5, s6, s7, s8, s9⟩
         go_simp
         with_reducible rfl
        rotate_left
        ·simp only [Act.put, sS_, sZ_, sC_, i64_w, i32_w]
         rfl
        refine one_ (i := 6) (N := some 18) D12_1000051 rfl rfl (one_of HT_.out (by kernel_rfl)) (by decide) (fun K hK => ?_)
        refine goesV_ Try.func52 (by kernel_rfl) rfl #[.agg #[.int .i64 ((rd_T51 l0 (ji4)).f0), .int .i64 ((rd_T51 l0 (ji4)).f1), .int .i64 ((rd_T51 l0 (ji4)).f2), .int .i64 ((rd_T51 l0 (ji4)).f3), .int .i64 ((rd_T51 l0 (ji4)).f4)]] (by rfl) rfl rfl (by rfl) (by (try simp only [List.map_toArray, List.map_cons, List.map_nil]); first | done | (simp only [hji4]; rfl) | rfl | (simp only [List.length_drop, List.length_take]; rfl)) ?_
        with_reducible refine (impl_AreJobs_1.calls ((rd_T51 l0 (ji4)).f0) ((rd_T51 l0 (ji4)).f1) ((rd_T51 l0 (ji4)).f2) ((rd_T51 l0 (ji4)).f3) ((rd_T51 l0 (ji4)).f4) t219 _ A7.out).mono ?_
        rintro e w12 ⟨rfl, hb⟩
        refine ⟨_, rfl, ?_⟩
        have n0_ := Aside0.mk (below_step (by repeat (first | (with_reducible first | exact HB.out | apply below_alloc | apply pw_below_drewN | apply below_drew1) | exact HB.out)) hb)
        clear HB
        have HB := n0_
        clear n0_
        (try clear hb)
        (try clear hb2)
        (try clear hk)
        (try clear hi)
        refine hK.out _ _ ⟨((HB.out.cell (World.block_lt_of_cell? w _ hw218_0)).trans hw218_0), ((HB.out.cell (World.block_lt_of_cell? w _ hw218_1)).trans hw218_1), ((HB.out.cell (World.block_lt_of_cell? w _ hw218_2)).trans hw218_2), ((HB.out.cell (World.block_lt_of_cell? w _ hw218_3)).trans hw218_3), ((HB.out.cell (World.block_lt_of_cell? w _ hw218_4)).trans hw218_4), ((HB.out.cell (World.block_lt_of_cell? w _ hw220_0)).trans hw220_0), ((HB.out.cell (World.block_lt_of_cell? w _ hw220_1)).trans hw220_1), ((HB.out.cell (World.block_lt_of_cell? w _ hw220_2)).trans hw220_2), ((HB.out.cell (World.block_lt_of_cell? w _ hw220_3)).trans hw220_3), ((HB.out.cell (World.block_lt_of_cell? w _ hw220_4)).trans hw220_4)⟩ (fun hHeld => ?_)
        clear hK K
        refine norm_ (a' := ?_) ?_ ?_
        rotate_left
        ·show Act.put _ (some 18) _ = _
         simp only [Act.put, sS_, sZ_, sC_, i64_w, i32_w]
         rfl
        refine one_ (i := 12) (N := some 24) D13_1000051 rfl rfl (one_of HT_.out (by kernel_rfl)) (by decide) (fun K hK => ?_)
        refine goesV_ Try.func52 (by kernel_rfl) rfl #[.agg #[.int .i64 ((rd_T51 l0 x5_1).f0), .int .i64 ((rd_T51 l0 x5_1).f1), .int .i64 ((rd_T51 l0 x5_1).f2), .int .i64 ((rd_T51 l0 x5_1).f3), .int .i64 ((rd_T51 l0 x5_1).f4)]] (by rfl) rfl rfl (by rfl) (by (try simp only [List.map_toArray, List.map_cons, List.map_nil]); first | done | rfl | (simp only [List.length_drop, List.length_take]; rfl)) ?_
        with_reducible refine (impl_AreJobs_1.calls ((rd_T51 l0 x5_1).f0) ((rd_T51 l0 x5_1).f1) ((rd_T51 l0 x5_1).f2) ((rd_T51 l0 x5_1).f3) ((rd_T51 l0 x5_1).f4) t221 _ A9.out).mono ?_
        rintro e w13 ⟨rfl, hb⟩
        refine ⟨_, rfl, ?_⟩
        have n0_ := Aside0.mk (below_step (by repeat (first | (with_reducible first | exact HB.out | apply below_alloc | apply pw_below_drewN | apply below_drew1) | exact HB.out)) hb)
        clear HB
        have HB := n0_
        clear n0_
        (try clear hb)
        (try clear hb2)
        (try clear hk)
        (try clear hi)
        refine hK.out _ _ ⟨((HB.out.cell (World.block_lt_of_cell? w _ hw218_0)).trans hw218_0), ((HB.out.cell (World.block_lt_of_cell? w _ hw218_1)).trans hw218_1), ((HB.out.cell (World.block_lt_of_cell? w _ hw218_2)).trans hw218_2), ((HB.out.cell (World.block_lt_of_cell? w _ hw218_3)).trans hw218_3), ((HB.out.cell (World.block_lt_of_cell? w _ hw218_4)).trans hw218_4), ((HB.out.cell (World.block_lt_of_cell? w _ hw220_0)).trans hw220_0), ((HB.out.cell (World.block_lt_of_cell? w _ hw220_1)).trans hw220_1), ((HB.out.cell (World.block_lt_of_cell? w _ hw220_2)).trans hw220_2), ((HB.out.cell (World.block_lt_of_cell? w _ hw220_3)).trans hw220_3), ((HB.out.cell (World.block_lt_of_cell? w _ hw220_4)).trans hw220_4)⟩ (fun hHeld => ?_)
        clear hK K
        refine norm_ (a' := ?_) ?_ ?_
        rotate_left
        ·show Act.put _ (some 24) _ = _
         simp only [Act.put, sS_, sZ_, sC_, i64_w, i32_w]
         rfl
        refine pure_ (i := 13) (N := some 25) (v := ?_) (a' := ?_) D14_1000051 rfl rfl (any_of HT_.out (by kernel_rfl)) (fun _ _ _ h => h) (Or.inl ⟨by rfl, ?_⟩) ?_ ?_
        rotate_left
        ·intro w'
         go_simp
         with_reducible rfl
        rotate_left
        ·simp only [Act.put, sS_, sZ_, sC_, i64_w, i32_w]
         rfl
        refine done_ (done_of HT_.out (by kernel_rfl)) ?_
        try go_wp2
        go_ret
        exact ⟨by first | rfl | (simp [errW_none, errW_some] <;> rfl) | (simp only [← hji4]; first | rfl | (simp [errW_none, errW_some] <;> rfl)) | (simp [*, errW_none, errW_some] <;> rfl) | (simp [wrap64]; done), by repeat (first | (with_reducible first | exact HB.out | apply below_alloc | apply pw_below_drewN | apply below_drew1) | exact HB.out)⟩
       ·rw [if_neg c10] at H
        have c10b0 : decide (t221 ≤ t219) = false := decide_eq_false c10
        clear c10
        have H' := Aside0.mk H
        clear H
        try go_wp2
        have n0_ := Aside0.mk (below_drew1 HB.out)
        clear HB
        have HB := n0_
        clear n0_
        have p218 : 0 ≤ ((ji4) : Int) := of_decide_eq_true (by first | (with_reducible assumption) | assumption)
        have q218 : (ji4) < (l0.length : Int) := of_decide_eq_true (by first | (with_reducible assumption) | assumption)
        obtain ⟨ad218, e218, hx218_0, hx218_1, hx218_2, hx218_3, hx218_4⟩ := at_T51 HR0.out (ji4) p218 q218
        have hw218_4 := hx218_4
        have hw218_3 := hx218_3
        have hw218_2 := hx218_2
        have hw218_1 := hx218_1
        have hw218_0 := hx218_0
        cases e218
        replace hx218_0 := (HB.out.cell (World.block_lt_of_cell? w _ hx218_0)).trans hx218_0
        replace hx218_1 := (HB.out.cell (World.block_lt_of_cell? w _ hx218_1)).trans hx218_1
        replace hx218_2 := (HB.out.cell (World.block_lt_of_cell? w _ hx218_2)).trans hx218_2
        replace hx218_3 := (HB.out.cell (World.block_lt_of_cell? w _ hx218_3)).trans hx218_3
        replace hx218_4 := (HB.out.cell (World.block_lt_of_cell? w _ hx218_4)).trans hx218_4
        replace p218 := eq_true p218
        replace q218 := eq_true q218
        have p220 : 0 ≤ (x5_1 : Int) := of_decide_eq_true (by first | (with_reducible assumption) | assumption)
        have q220 : x5_1 < (l0.length : Int) := of_decide_eq_true (by first | (with_reducible assumption) | assumption)
        obtain ⟨ad220, e220, hx220_0, hx220_1, hx220_2, hx220_3, hx220_4⟩ := at_T51 HR0.out x5_1 p220 q220
        have hw220_4 := hx220_4
        have hw220_3 := hx220_3
        have hw220_2 := hx220_2
        have hw220_1 := hx220_1
        have hw220_0 := hx220_0
        obtain rfl : ad218 = ad220 := (by injection e220)
        replace hx220_0 := (HB.out.cell (World.block_lt_of_cell? w _ hx220_0)).trans hx220_0
        replace hx220_1 := (HB.out.cell (World.block_lt_of_cell? w _ hx220_1)).trans hx220_1
        replace hx220_2 := (HB.out.cell (World.block_lt_of_cell? w _ hx220_2)).trans hx220_2
        replace hx220_3 := (HB.out.cell (World.block_lt_of_cell? w _ hx220_3)).trans hx220_3
        replace hx220_4 := (HB.out.cell (World.block_lt_of_cell? w _ hx220_4)).trans hx220_4
        replace p220 := eq_true p220
        replace q220 := eq_true q220
        refine start_ (n := 14) (S := fun w' => w'.cell? (ad218.add (((ji4)).toNat * 5)) = some (.int .i64 ((rd_T51 l0 (ji4)).f0)) ∧ w'.cell? ⟨(ad218.add (((ji4)).toNat * 5)).block, (ad218.add (((ji4)).toNat * 5)).off + 1, none⟩ = some (.int .i64 ((rd_T51 l0 (ji4)).f1)) ∧ w'.cell? ⟨(ad218.add (((ji4)).toNat * 5)).block, (ad218.add (((ji4)).toNat * 5)).off + 2, none⟩ = some (.int .i64 ((rd_T51 l0 (ji4)).f2)) ∧ w'.cell? ⟨(ad218.add (((ji4)).toNat * 5)).block, (ad218.add (((ji4)).toNat * 5)).off + 3, none⟩ = some (.int .i64 ((rd_T51 l0 (ji4)).f3)) ∧ w'.cell? ⟨(ad218.add (((ji4)).toNat * 5)).block, (ad218.add (((ji4)).toNat * 5)).off + 4, none⟩ = some (.int .i64 ((rd_T51 l0 (ji4)).f4)) ∧ w'.cell? (ad218.add ((x5_1).toNat * 5)) = some (.int .i64 ((rd_T51 l0 x5_1).f0)) ∧ w'.cell? ⟨(ad218.add ((x5_1).toNat * 5)).block, (ad218.add ((x5_1).toNat * 5)).off + 1, none⟩ = some (.int .i64 ((rd_T51 l0 x5_1).f1)) ∧ w'.cell? ⟨(ad218.add ((x5_1).toNat * 5)).block, (ad218.add ((x5_1).toNat * 5)).off + 2, none⟩ = some (.int .i64 ((rd_T51 l0 x5_1).f2)) ∧ w'.cell? ⟨(ad218.add ((x5_1).toNat * 5)).block, (ad218.add ((x5_1).toNat * 5)).off + 3, none⟩ = some (.int .i64 ((rd_T51 l0 x5_1).f3)) ∧ w'.cell? ⟨(ad218.add ((x5_1).toNat * 5)).block, (ad218.add ((x5_1).toNat * 5)).off + 4, none⟩ = some (.int .i64 ((rd_T51 l0 x5_1).f4))) (ds := []) D0_1000051 (by kernel_rfl) rfl rfl ⟨((HB.out.cell (World.block_lt_of_cell? w _ hw218_0)).trans hw218_0), ((HB.out.cell (World.block_lt_of_cell? w _ hw218_1)).trans hw218_1), ((HB.out.cell (World.block_lt_of_cell? w _ hw218_2)).trans hw218_2), ((HB.out.cell (World.block_lt_of_cell? w _ hw218_3)).trans hw218_3), ((HB.out.cell (World.block_lt_of_cell? w _ hw218_4)).trans hw218_4), ((HB.out.cell (World.block_lt_of_cell? w _ hw220_0)).trans hw220_0), ((HB.out.cell (World.block_lt_of_cell? w _ hw220_1)).trans hw220_1), ((HB.out.cell (World.block_lt_of_cell? w _ hw220_2)).trans hw220_2), ((HB.out.cell (World.block_lt_of_cell? w _ hw220_3)).trans hw220_3), ((HB.out.cell (World.block_lt_of_cell? w _ hw220_4)).trans hw220_4)⟩ (fun hHeld => ?_); refine with_tabW impl_LoomJob_51__impl_AreJobs_1.tab4 impl_LoomJob_51__impl_AreJobs_1.bits4 (fun HT_ HW_ => ?_)
        generalize wr.drew = w14 at HB hx218_0 hx218_1 hx218_2 hx218_3 hx218_4 hx220_0 hx220_1 hx220_2 hx220_3 hx220_4 hHeld ⊢
        refine pure_ (i := 0) (N := some 12) (v := ?_) (a' := ?_) D1_1000051 rfl rfl (any_of HT_.out (by kernel_rfl)) (fun _ _ _ h => h) (Or.inl ⟨by rfl, ?_⟩) ?_ ?_
        rotate_left
        ·intro w'
         go_simp
         with_reducible rfl
        rotate_left
        ·simp only [Act.put, sS_, sZ_, sC_, i64_w, i32_w]
         rfl
        refine pure_ (i := 1) (N := some 13) (v := ?_) (a' := ?_) D2_1000051 rfl rfl (any_of HT_.out (by kernel_rfl)) (fun _ _ _ h => h) (Or.inl ⟨by rfl, ?_⟩) ?_ ?_
        rotate_left
        ·intro w'
         go_simp
         with_reducible rfl
        rotate_left
        ·simp only [Act.put, sS_, sZ_, sC_, i64_w, i32_w]
         rfl
        refine pure_ (i := 2) (N := some 14) (v := ?_) (a' := ?_) D3_1000051 rfl rfl (any_of HT_.out (by kernel_rfl)) (fun _ _ _ h => h) (Or.inl ⟨by rfl, ?_⟩) ?_ ?_
        rotate_left
        ·intro w'
         go_simp
         with_reducible rfl
        rotate_left
        ·simp only [Act.put, sS_, sZ_, sC_, i64_w, i32_w]
         rfl
        refine pure_ (i := 3) (N := some 15) (v := ?_) (a' := ?_) D4_1000051 rfl rfl (any_of HT_.out (by kernel_rfl)) (fun _ _ _ h => h) (Or.inl ⟨by rfl, ?_⟩) ?_ ?_
        rotate_left
        ·intro w'
         go_simp
         with_reducible rfl
        rotate_left
        ·simp only [Act.put, sS_, sZ_, sC_, i64_w, i32_w]
         rfl
        refine pure_ (i := 4) (N := some 16) (v := ?_) (a' := ?_) D5_1000051 rfl rfl (any_of HT_.out (by kernel_rfl)) (fun _ _ _ h => h) (Or.inl ⟨by rfl, ?_⟩) ?_ ?_
        rotate_left
        ·intro w'
         go_simp
         with_reducible rfl
        rotate_left
        ·simp only [Act.put, sS_, sZ_, sC_, i64_w, i32_w]
         rfl
        refine pure_ (i := 7) (N := some 19) (v := ?_) (a' := ?_) D6_1000051 rfl rfl (any_of HT_.out (by kernel_rfl)) (fun _ _ _ h => h) (Or.inl ⟨by rfl, ?_⟩) ?_ ?_
        rotate_left
        ·intro w'
         go_simp
         with_reducible rfl
        rotate_left
        ·simp only [Act.put, sS_, sZ_, sC_, i64_w, i32_w]
         rfl
        refine pure_ (i := 8) (N := some 20) (v := ?_) (a' := ?_) D7_1000051 rfl rfl (any_of HT_.out (by kernel_rfl)) (fun _ _ _ h => h) (Or.inl ⟨by rfl, ?_⟩) ?_ ?_
        rotate_left
        ·intro w'
         go_simp
         with_reducible rfl
        rotate_left
        ·simp only [Act.put, sS_, sZ_, sC_, i64_w, i32_w]
         rfl
        refine pure_ (i := 9) (N := some 21) (v := ?_) (a' := ?_) D8_1000051 rfl rfl (any_of HT_.out (by kernel_rfl)) (fun _ _ _ h => h) (Or.inl ⟨by rfl, ?_⟩) ?_ ?_
        rotate_left
        ·intro w'
         go_simp
         with_reducible rfl
        rotate_left
        ·simp only [Act.put, sS_, sZ_, sC_, i64_w, i32_w]
         rfl
        refine pure_ (i := 10) (N := some 22) (v := ?_) (a' := ?_) D9_1000051 rfl rfl (any_of HT_.out (by kernel_rfl)) (fun _ _ _ h => h) (Or.inl ⟨by rfl, ?_⟩) ?_ ?_
        rotate_left
        ·intro w'
         go_simp
         with_reducible rfl
        rotate_left
        ·simp only [Act.put, sS_, sZ_, sC_, i64_w, i32_w]
         rfl
        refine take_ (i := 5) (N := some 17) (v := ?_) (a' := ?_) D10_1000051 rfl rfl (take_ofW HT_.out HW_.out (by kernel_rfl)) (fun _ _ _ h => h) (Or.inl ⟨by rfl, ?_⟩) hHeld ?_ ?_
        rotate_left
        ·rintro w' ⟨s0, s1, s2, s3, s4, s5, s6, s7, s8, s9⟩
         go_simp
         with_reducible rfl
        rotate_left
        ·simp only [Act.put, sS_, sZ_, sC_, i64_w, i32_w]
         rfl
        refine take_ (i := 11) (N := some 23) (v := ?_) (a' := ?_) D11_1000051 rfl rfl (take_ofW HT_.out HW_.out (by kernel_rfl)) (fun _ _ _ h => h) (Or.inl ⟨by rfl, ?_⟩) hHeld ?_ ?_
        rotate_left
        ·rintro w' ⟨s0, s1, s2, s3, s4, s5, s6, s7, s8, s9⟩
         go_simp
         with_reducible rfl
        rotate_left
        ·simp only [Act.put, sS_, sZ_, sC_, i64_w, i32_w]
         rfl
        refine one_ (i := 6) (N := some 18) D12_1000051 rfl rfl (one_of HT_.out (by kernel_rfl)) (by decide) (fun K hK => ?_)
        refine goesV_ Try.func52 (by kernel_rfl) rfl #[.agg #[.int .i64 ((rd_T51 l0 (ji4)).f0), .int .i64 ((rd_T51 l0 (ji4)).f1), .int .i64 ((rd_T51 l0 (ji4)).f2), .int .i64 ((rd_T51 l0 (ji4)).f3), .int .i64 ((rd_T51 l0 (ji4)).f4)]] (by rfl) rfl rfl (by rfl) (by (try simp only [List.map_toArray, List.map_cons, List.map_nil]); first | done | (simp only [hji4]; rfl) | rfl | (simp only [List.length_drop, List.length_take]; rfl)) ?_
        with_reducible refine (impl_AreJobs_1.calls ((rd_T51 l0 (ji4)).f0) ((rd_T51 l0 (ji4)).f1) ((rd_T51 l0 (ji4)).f2) ((rd_T51 l0 (ji4)).f3) ((rd_T51 l0 (ji4)).f4) t219 _ A7.out).mono ?_
        rintro e w15 ⟨rfl, hb⟩
        refine ⟨_, rfl, ?_⟩
        have n0_ := Aside0.mk (below_step (by repeat (first | (with_reducible first | exact HB.out | apply below_alloc | apply pw_below_drewN | apply below_drew1) | exact HB.out)) hb)
        clear HB
        have HB := n0_
        clear n0_
        (try clear hb)
        (try clear hb2)
        (try clear hk)
        (try clear hi)
        refine hK.out _ _ ⟨((HB.out.cell (World.block_lt_of_cell? w _ hw218_0)).trans hw218_0), ((HB.out.cell (World.block_lt_of_cell? w _ hw218_1)).trans hw218_1), ((HB.out.cell (World.block_lt_of_cell? w _ hw218_2)).trans hw218_2), ((HB.out.cell (World.block_lt_of_cell? w _ hw218_3)).trans hw218_3), ((HB.out.cell (World.block_lt_of_cell? w _ hw218_4)).trans hw218_4), ((HB.out.cell (World.block_lt_of_cell? w _ hw220_0)).trans hw220_0), ((HB.out.cell (World.block_lt_of_cell? w _ hw220_1)).trans hw220_1), ((HB.out.cell (World.block_lt_of_cell? w _ hw220_2)).trans hw220_2), ((HB.out.cell (World.block_lt_of_cell? w _ hw220_3)).trans hw220_3), ((HB.out.cell (World.block_lt_of_cell? w _ hw220_4)).trans hw220_4)⟩ (fun hHeld => ?_)
        clear hK K
        refine norm_ (a' := ?_) ?_ ?_
        rotate_left
        ·show Act.put _ (some 18) _ = _
         simp only [Act.put, sS_, sZ_, sC_, i64_w, i32_w]
         rfl
        refine one_ (i := 12) (N := some 24) D13_1000051 rfl rfl (one_of HT_.out (by kernel_rfl)) (by decide) (fun K hK => ?_)
        refine goesV_ Try.func52 (by kernel_rfl) rfl #[.agg #[.int .i64 ((rd_T51 l0 x5_1).f0), .int .i64 ((rd_T51 l0 x5_1).f1), .int .i64 ((rd_T51 l0 x5_1).f2), .int .i64 ((rd_T51 l0 x5_1).f3), .int .i64 ((rd_T51 l0 x5_1).f4)]] (by rfl) rfl rfl (by rfl) (by (try simp only [List.map_toArray, List.map_cons, List.map_nil]); first | done | rfl | (simp only [List.length_drop, List.length_take]; rfl)) ?_
        with_reducible refine (impl_AreJobs_1.calls ((rd_T51 l0 x5_1).f0) ((rd_T51 l0 x5_1).f1) ((rd_T51 l0 x5_1).f2) ((rd_T51 l0 x5_1).f3) ((rd_T51 l0 x5_1).f4) t221 _ A9.out).mono ?_
        rintro e w16 ⟨rfl, hb⟩
        refine ⟨_, rfl, ?_⟩
        have n0_ := Aside0.mk (below_step (by repeat (first | (with_reducible first | exact HB.out | apply below_alloc | apply pw_below_drewN | apply below_drew1) | exact HB.out)) hb)
        clear HB
        have HB := n0_
        clear n0_
        (try clear hb)
        (try clear hb2)
        (try clear hk)
        (try clear hi)
        refine hK.out _ _ ⟨((HB.out.cell (World.block_lt_of_cell? w _ hw218_0)).trans hw218_0), ((HB.out.cell (World.block_lt_of_cell? w _ hw218_1)).trans hw218_1), ((HB.out.cell (World.block_lt_of_cell? w _ hw218_2)).trans hw218_2), ((HB.out.cell (World.block_lt_of_cell? w _ hw218_3)).trans hw218_3), ((HB.out.cell (World.block_lt_of_cell? w _ hw218_4)).trans hw218_4), ((HB.out.cell (World.block_lt_of_cell? w _ hw220_0)).trans hw220_0), ((HB.out.cell (World.block_lt_of_cell? w _ hw220_1)).trans hw220_1), ((HB.out.cell (World.block_lt_of_cell? w _ hw220_2)).trans hw220_2), ((HB.out.cell (World.block_lt_of_cell? w _ hw220_3)).trans hw220_3), ((HB.out.cell (World.block_lt_of_cell? w _ hw220_4)).trans hw220_4)⟩ (fun hHeld => ?_)
        clear hK K
        refine norm_ (a' := ?_) ?_ ?_
        rotate_left
        ·show Act.put _ (some 24) _ = _
         simp only [Act.put, sS_, sZ_, sC_, i64_w, i32_w]
         rfl
        refine pure_ (i := 13) (N := some 25) (v := ?_) (a' := ?_) D14_1000051 rfl rfl (any_of HT_.out (by kernel_rfl)) (fun _ _ _ h => h) (Or.inl ⟨by rfl, ?_⟩) ?_ ?_
        rotate_left
        ·intro w'
         go_simp
         with_reducible rfl
        rotate_left
        ·simp only [Act.put, sS_, sZ_, sC_, i64_w, i32_w]
         rfl
        refine done_ (done_of HT_.out (by kernel_rfl)) ?_
        try go_wp2
        go_roundg k1
        case measure => have := HK1.out; omega
        case rel => exact ⟨(wrap64 (x5_1 + 1)), (by first | rfl | (simp; done) | (simp [*]; done)), H', ⟨by have := HK1.out; omega⟩, ⟨by repeat (first | (with_reducible first | exact HB.out | apply below_alloc | apply pw_below_drewN | apply below_drew1) | exact HB.out)⟩⟩
      ·rw [if_neg c8] at H
       exact absurd H (by simp)
     ·rw [if_neg c6] at H
      exact absurd H (by simp)
    ·rw [if_neg c5] at H
     exact absurd H (by simp)
   ·rw [if_neg c3] at H
    have c3b0 : decide (x5_1 < (l0.length : Int)) = false := decide_eq_false c3
    clear c3
    obtain rfl := Option.some.inj H
    go_wp2
    go_ret
    exact ⟨by first | rfl | (simp [errW_none, errW_some] <;> rfl) | (simp [*, errW_none, errW_some] <;> rfl) | (simp [wrap64]; done), by repeat (first | (with_reducible first | exact HB.out | apply below_alloc | apply pw_below_drewN | apply below_drew1) | exact HB.out)⟩

end Go.Proofs.Ytcgpibbbkdhpeaa.Q

namespace Go.Proofs.Ytcgpibbbkdhpeaa.Q
open Go.RowKit Go.Proofs.YtcgpibbbkdhpeaaW.PrintWords Go.Proofs.YtcgpibbbkdhpeaaW.PrintLast Go.Proofs.YtcgpibbbkdhpeaaW.PrintMore
set_option linter.unusedVariables false
set_option linter.unusedSimpArgs false

/-! ### impl_AreJobs: function 17 -/
def impl_AreJobs.f (k : Nat) (l0 : List (S51)) : Option (Bool) := if (l0.length : Int) ≤ 6 then ((impl_LoomJob_49__impl_LoomJob_isValid.f l0).bind fun t222 => (if t222 = true then ((impl_LoomJob_51__impl_AreJobs_1.f k l0).bind fun t223 => (some t223)) else (some false))) else (some false)
set_option maxHeartbeats 8000000 in
set_option maxRecDepth 100000 in
theorem impl_AreJobs.calls (k : Nat) (A0 : Option Addr) (c0 : Nat) (l0 : List (S51)) (r : Bool) (w : World) (hr0 : Kd.C k51 w A0 l0.length l0) (hc0 : l0.length ≤ c0) (h : impl_AreJobs.f k l0 = some r) :
  Calls Try.prog 17 #[.slice A0 l0.length c0] w fun e w' => e = .returned (.bool r) ∧ Below w.heap.size w w' := by
 have HR0 := Aside0.mk hr0
 have HC0 := Aside0.mk hc0
 clear hr0 hc0
 have HB := Aside0.mk (Below.refl w.heap.size w)
 have H : (if (l0.length : Int) ≤ 6 then ((impl_LoomJob_49__impl_LoomJob_isValid.f l0).bind fun t222 => (if t222 = true then ((impl_LoomJob_51__impl_AreJobs_1.f k l0).bind fun t223 => (some t223)) else (some false))) else (some false)) = some r := h
 clear h
 by_cases c2 : (l0.length : Int) ≤ 6
 ·rw [if_pos c2] at H
  have c2b0 : decide ((l0.length : Int) ≤ 6) = true := decide_eq_true c2
  have c2b1 : decide (l0.length ≤ 6) = true := decide_eq_true (by omega)
  clear c2
  replace H := Option.bind_eq_some_iff.mp H
  obtain ⟨t222, A30, H⟩ := H
  have A3 := Aside0.mk A30
  clear A30
  by_cases c4 : t222 = true
  ·subst c4
   rw [if_pos rfl] at H
   replace H := Option.bind_eq_some_iff.mp H
   obtain ⟨t223, A50, H⟩ := H
   have A5 := Aside0.mk A50
   clear A50
   obtain rfl := Option.some.inj H
   go_enter Try.func17, Try.ntmps17
   go_wp2_with (first | (go_at_call 49; (with_reducible refine (impl_LoomJob_49__impl_LoomJob_isValid.calls _ _ l0  true _ ?side1 ?side2 A3.out).mono ?_); (case side1 => repeat (first | exact HR0.out | (with_reducible refine Kd.C_alloc ?_ _) | (with_reducible refine Kd.C_drewN ?_ _) | (with_reducible refine Kd.C_drew ?_))); (case side2 => exact HC0.out); rintro e w6 ⟨rfl, hb⟩; have n0_ := Aside0.mk (below_step (by repeat (first | (with_reducible first | exact HB.out | apply below_alloc | apply pw_below_drewN | apply below_drew1) | exact HB.out)) hb); clear HB; have HB := n0_; clear n0_; (try clear hb); (try clear hb2); (try clear hk); (try clear hi)) | (go_at_call 51; (with_reducible refine (impl_LoomJob_51__impl_AreJobs_1.calls k _ _ l0  t223 _ ?side1 ?side2 A5.out).mono ?_); (case side1 => repeat (first | exact (Kd.C_below HR0.out HB.out) | (with_reducible refine Kd.C_alloc ?_ _) | (with_reducible refine Kd.C_drewN ?_ _) | (with_reducible refine Kd.C_drew ?_))); (case side2 => exact HC0.out); rintro e w7 ⟨rfl, hb⟩; have n0_ := Aside0.mk (below_step (by repeat (first | (with_reducible first | exact HB.out | apply below_alloc | apply pw_below_drewN | apply below_drew1) | exact HB.out)) hb); clear HB; have HB := n0_; clear n0_; (try clear hb); (try clear hb2); (try clear hk); (try clear hi)))
   go_ret
   exact ⟨by first | rfl | (simp [errW_none, errW_some] <;> rfl) | (simp [*, errW_none, errW_some] <;> rfl) | (simp [wrap64]; done), by repeat (first | (with_reducible first | exact HB.out | apply below_alloc | apply pw_below_drewN | apply below_drew1) | exact HB.out)⟩
  ·replace c4 := Bool.eq_false_iff.mpr c4
   subst c4
   rw [if_neg (show ¬ (false = true) by decide)] at H
   obtain rfl := Option.some.inj H
   go_enter Try.func17, Try.ntmps17
   go_wp2_with (first | (go_at_call 49; (with_reducible refine (impl_LoomJob_49__impl_LoomJob_isValid.calls _ _ l0  false _ ?side1 ?side2 A3.out).mono ?_); (case side1 => repeat (first | exact HR0.out | (with_reducible refine Kd.C_alloc ?_ _) | (with_reducible refine Kd.C_drewN ?_ _) | (with_reducible refine Kd.C_drew ?_))); (case side2 => exact HC0.out); rintro e w8 ⟨rfl, hb⟩; have n0_ := Aside0.mk (below_step (by repeat (first | (with_reducible first | exact HB.out | apply below_alloc | apply pw_below_drewN | apply below_drew1) | exact HB.out)) hb); clear HB; have HB := n0_; clear n0_; (try clear hb); (try clear hb2); (try clear hk); (try clear hi)))
   go_ret
   exact ⟨by first | rfl | (simp [errW_none, errW_some] <;> rfl) | (simp [*, errW_none, errW_some] <;> rfl) | (simp [wrap64]; done), by repeat (first | (with_reducible first | exact HB.out | apply below_alloc | apply pw_below_drewN | apply below_drew1) | exact HB.out)⟩
 ·rw [if_neg c2] at H
  have c2b0 : decide ((l0.length : Int) ≤ 6) = false := decide_eq_false c2
  have c2b1 : decide (l0.length ≤ 6) = false := decide_eq_false (by omega)
  clear c2
  obtain rfl := Option.some.inj H
  go_enter Try.func17, Try.ntmps17
  go_wp2
  go_ret
  exact ⟨by first | rfl | (simp [errW_none, errW_some] <;> rfl) | (simp [*, errW_none, errW_some] <;> rfl) | (simp [wrap64]; done), by repeat (first | (with_reducible first | exact HB.out | apply below_alloc | apply pw_below_drewN | apply below_drew1) | exact HB.out)⟩

end Go.Proofs.Ytcgpibbbkdhpeaa.Q

