import Derived.Test.YtkglpfdoefdhdaaProg
import Derived.Below
import Derived.Deep.Draws
import Derived.Deep.AppendLies
import Derived.Maps.AppendAt
import Derived.OwnWalk
import Derived.Laws.BytesArg
import Derived.Laws.MakeOwn
import Derived.Laws.OwnMore
import Derived.Deep.OwnRows
import Derived.Tactics
import Derived.Lib.ConvBytes
import Derived.Laws.Slices
import Derived.WalkKit
import Derived.KernelRfl
import Derived.RowKit3
import Derived.Deep.LoopGhost
import Derived.Deep.QuietTactic
import Derived.BigQuiet
import Derived.WideLaws
import Derived.Deep.DeepCutAuto
import Derived.Deep.CutBlock
import Derived.Deep.RegionHeld3
import Derived.Laws.Rows
import Derived.Lib.AppendStr
import Derived.ArgAppend
import Derived.Laws.IdiomCopy
import Derived.OrdersHeld
import Derived.Laws.BitsLemmas
import Derived.RowKit
import Derived.Deep.Slices
import Derived.ChangeArms
import Derived.DataReads
import Derived.Carry
import Derived.Laws.Tables
import Derived.Lib.OthersKept
import Derived.Shelf.SortM.Plain
import Derived.Shelf.SortM.SortNone
import Derived.Shelf.SlicesG.CompactI
import Derived.Lib.Overlaps
import Derived.Lib.AppendZerosOnto
import Derived.Test.YtkglpfdoefdhdaaZFnExactFewestRepairs2
namespace Go.Proofs.Ytkglpfdoefdhdaa.Q
open Go.RowKit Go.Proofs.YtkglpfdoefdhdaaW.PrintWords Go.Proofs.YtkglpfdoefdhdaaW.PrintLast Go.Proofs.YtkglpfdoefdhdaaW.PrintMore
attribute [local go_sem] max2_int min2_int max_two min_two max_three min_three max_four min_four
set_option linter.unusedVariables false
set_option linter.unusedSimpArgs false



def errW : Option Int → Value
 | none => .nilIface
 | some c => .iface 0 (.int .i64 c)
theorem errW_none : errW none = .nilIface := rfl
theorem errW_some (c : Int) : errW (some c) = .iface 0 (.int .i64 c) := rfl

theorem info3 : (Try.prog.info? 3).map (fun i => (i.zero, i.size, i.bytes)) = some (some (.int .i64 0), 1, 8) := by kernel_rfl
theorem info35 : (Try.prog.info? 35).map (fun i => (i.zero, i.size, i.bytes)) = some (some (.agg #[(.int .i64 0), (.int .i64 0), (.int .i64 0), (.int .i64 0)]), 4, 32) := by kernel_rfl
/-! #### struct type 46 -/
structure S46 where
 f0 : Int
 f1 : Int
 f2 : (List Int)
def k46 : Kd S46 := Kd.iso (Kd.pair (Kd.int .i64) (Kd.pair (Kd.int .i64) (Kd.slice 3 (Kd.int .i64)))) (fun x : S46 => (x.f0, x.f1, x.f2))
theorem k46_open {w : World} {x : S46} {cs : List Value} (h : k46.K w x cs) : ∃ A2 c2, cs = [.int .i64 x.f0, .int .i64 x.f1, .slice A2 x.f2.length c2] ∧ x.f2.length ≤ c2 ∧ (Kd.int .i64).C w A2 x.f2.length x.f2 := by
 obtain ⟨_, _, rfl, rfl, ⟨_, _, rfl, rfl, ⟨A2, c2, rfl, l2, g2⟩⟩⟩ := h
 exact ⟨A2, c2, rfl, l2, g2⟩
/-! #### struct type 48 -/
structure S48 where
 f0 : Int
 f1 : Int
 f2 : Int
 f3 : Int
def z48 : S48 := ⟨(0 : Int), (0 : Int), (0 : Int), (0 : Int)⟩
def k48 : Kd S48 := Kd.iso (Kd.pair (Kd.int .i64) (Kd.pair (Kd.int .i64) (Kd.pair (Kd.int .i64) (Kd.int .i64)))) (fun x : S48 => (x.f0, x.f1, x.f2, x.f3))
theorem k48_open {w : World} {x : S48} {cs : List Value} (h : k48.K w x cs) : cs = [.int .i64 x.f0, .int .i64 x.f1, .int .i64 x.f2, .int .i64 x.f3] := by
 obtain ⟨_, _, rfl, rfl, ⟨_, _, rfl, rfl, ⟨_, _, rfl, rfl, rfl⟩⟩⟩ := h
 exact rfl
def rd_T48 (xs : List S48) (i : Int) : S48 := xs.getD i.toNat z48
theorem at_T48 {w : World} {A : Option Addr} {n : Nat} {xs : List S48} (h : Kd.C k48 w A n xs) (i : Int) (h0 : 0 ≤ i) (h1 : i < n) : ∃ ad , A = some ad ∧ w.cell? (ad.add (i.toNat * 4)) = some (.int .i64 (rd_T48 xs i).f0) ∧ w.cell? ⟨(ad.add (i.toNat * 4)).block, (ad.add (i.toNat * 4)).off + 1, none⟩ = some (.int .i64 (rd_T48 xs i).f1) ∧ w.cell? ⟨(ad.add (i.toNat * 4)).block, (ad.add (i.toNat * 4)).off + 2, none⟩ = some (.int .i64 (rd_T48 xs i).f2) ∧ w.cell? ⟨(ad.add (i.toNat * 4)).block, (ad.add (i.toNat * 4)).off + 3, none⟩ = some (.int .i64 (rd_T48 xs i).f3) := by
 obtain ⟨ad, c, e, _, hK, hc0⟩ := Kd.C_get h z48 i h0 h1
 have hc : ∀ j u, c[j]? = some u → w.cell? (ad.add (i.toNat * 4 + j)) = some u := hc0
 obtain rfl := k48_open hK
 exact ⟨ad, e, hc 0 _ rfl, by rw [← add_field _ _ 1 (by omega)]; exact hc 1 _ rfl, by rw [← add_field _ _ 2 (by omega)]; exact hc 2 _ rfl, by rw [← add_field _ _ 3 (by omega)]; exact hc 3 _ rfl⟩

/-! #### struct type 76 -/
structure S76 where
 f0 : Int
 f1 : Int
 f2 : Int
 f3 : Int
def z76 : S76 := ⟨(0 : Int), (0 : Int), (0 : Int), (0 : Int)⟩
def k76 : Kd S76 := Kd.iso (Kd.pair (Kd.int .i64) (Kd.pair (Kd.int .i64) (Kd.pair (Kd.int .i64) (Kd.int .i64)))) (fun x : S76 => (x.f0, x.f1, x.f2, x.f3))
theorem k76_open {w : World} {x : S76} {cs : List Value} (h : k76.K w x cs) : cs = [.int .i64 x.f0, .int .i64 x.f1, .int .i64 x.f2, .int .i64 x.f3] := by
 obtain ⟨_, _, rfl, rfl, ⟨_, _, rfl, rfl, ⟨_, _, rfl, rfl, rfl⟩⟩⟩ := h
 exact rfl
theorem k76_openM {w : World} {base : Nat} {ok : Nat → Prop} {x : S76} {cs : List Value} (h : k76.M w base ok x cs) : cs = [.int .i64 x.f0, .int .i64 x.f1, .int .i64 x.f2, .int .i64 x.f3] := by
 obtain ⟨_, _, rfl, rfl, ⟨_, _, rfl, rfl, ⟨_, _, rfl, rfl, rfl⟩⟩⟩ := h
 exact rfl
theorem k76_mkM (w : World) (base : Nat) (ok : Nat → Prop) (x : S76)  : k76.M w base ok x [.int .i64 x.f0, .int .i64 x.f1, .int .i64 x.f2, .int .i64 x.f3] := ⟨[.int .i64 x.f0], [.int .i64 x.f1, .int .i64 x.f2, .int .i64 x.f3], rfl, rfl, ⟨[.int .i64 x.f1], [.int .i64 x.f2, .int .i64 x.f3], rfl, rfl, ⟨[.int .i64 x.f2], [.int .i64 x.f3], rfl, rfl, rfl⟩⟩⟩
def rd_T76 (xs : List S76) (i : Int) : S76 := xs.getD i.toNat z76
/-! #### struct type 35 -/
structure S35 where
 f0 : Int
 f1 : Int
 f2 : Int
 f3 : Int
def z35 : S35 := ⟨(0 : Int), (0 : Int), (0 : Int), (0 : Int)⟩
def k35 : Kd S35 := Kd.iso (Kd.pair (Kd.int .i64) (Kd.pair (Kd.int .i64) (Kd.pair (Kd.int .i64) (Kd.int .i64)))) (fun x : S35 => (x.f0, x.f1, x.f2, x.f3))
theorem k35_open {w : World} {x : S35} {cs : List Value} (h : k35.K w x cs) : cs = [.int .i64 x.f0, .int .i64 x.f1, .int .i64 x.f2, .int .i64 x.f3] := by
 obtain ⟨_, _, rfl, rfl, ⟨_, _, rfl, rfl, ⟨_, _, rfl, rfl, rfl⟩⟩⟩ := h
 exact rfl
theorem k35_openM {w : World} {base : Nat} {ok : Nat → Prop} {x : S35} {cs : List Value} (h : k35.M w base ok x cs) : cs = [.int .i64 x.f0, .int .i64 x.f1, .int .i64 x.f2, .int .i64 x.f3] := by
 obtain ⟨_, _, rfl, rfl, ⟨_, _, rfl, rfl, ⟨_, _, rfl, rfl, rfl⟩⟩⟩ := h
 exact rfl
theorem k35_mkM (w : World) (base : Nat) (ok : Nat → Prop) (x : S35)  : k35.M w base ok x [.int .i64 x.f0, .int .i64 x.f1, .int .i64 x.f2, .int .i64 x.f3] := ⟨[.int .i64 x.f0], [.int .i64 x.f1, .int .i64 x.f2, .int .i64 x.f3], rfl, rfl, ⟨[.int .i64 x.f1], [.int .i64 x.f2, .int .i64 x.f3], rfl, rfl, ⟨[.int .i64 x.f2], [.int .i64 x.f3], rfl, rfl, rfl⟩⟩⟩
def rd_T35 (xs : List S35) (i : Int) : S35 := xs.getD i.toNat z35
theorem at_T35 {w : World} {A : Option Addr} {n : Nat} {xs : List S35} (h : Kd.C k35 w A n xs) (i : Int) (h0 : 0 ≤ i) (h1 : i < n) : ∃ ad , A = some ad ∧ w.cell? (ad.add (i.toNat * 4)) = some (.int .i64 (rd_T35 xs i).f0) ∧ w.cell? ⟨(ad.add (i.toNat * 4)).block, (ad.add (i.toNat * 4)).off + 1, none⟩ = some (.int .i64 (rd_T35 xs i).f1) ∧ w.cell? ⟨(ad.add (i.toNat * 4)).block, (ad.add (i.toNat * 4)).off + 2, none⟩ = some (.int .i64 (rd_T35 xs i).f2) ∧ w.cell? ⟨(ad.add (i.toNat * 4)).block, (ad.add (i.toNat * 4)).off + 3, none⟩ = some (.int .i64 (rd_T35 xs i).f3) := by
 obtain ⟨ad, c, e, _, hK, hc0⟩ := Kd.C_get h z35 i h0 h1
 have hc : ∀ j u, c[j]? = some u → w.cell? (ad.add (i.toNat * 4 + j)) = some u := hc0
 obtain rfl := k35_open hK
 exact ⟨ad, e, hc 0 _ rfl, by rw [← add_field _ _ 1 (by omega)]; exact hc 1 _ rfl, by rw [← add_field _ _ 2 (by omega)]; exact hc 2 _ rfl, by rw [← add_field _ _ 3 (by omega)]; exact hc 3 _ rfl⟩

end Go.Proofs.Ytkglpfdoefdhdaa.Q

namespace Go.Proofs.YtkglpfdoefdhdaaW.Open
open Go.ChangeShapes Go.WideShapes Go.Deep Go.Proofs.YtkglpfdoefdhdaaW.PrintWords

/-- Whatever reads as data of type t lies in memory as a value of kind d that is good. -/
structure Opn {α : Type} (P : Program) (d : Kd α) (t : TypeId) (good : α → Prop) : Prop where
  out : ∀ {H : Type} {enc : TypeId × Value → H} {w : World} {base : Nat} {spare : Nat → Bool} {held : Bool} {fuel : Nat} {cs : List Value} {x : DataW H × List MemPlace},
    DataW.trod enc P w base spare held fuel t cs = some x → ∃ a, d.K w a cs ∧ good a

/-- One for each place: a list of them. -/
theorem list_of {α : Type} {Q : Nat → α → Prop} : ∀ {len : Nat}, (∀ i, i < len → ∃ p : α, Q i p) → ∃ l : List α, l.length = len ∧ ∀ i p, l[i]? = some p → Q i p
  | 0, _ => ⟨[], rfl, by simp⟩
  | n + 1, h => by
    obtain ⟨l, hl1, hl2⟩ := list_of (len := n) (fun i hi => h i (by omega))
    obtain ⟨p, hp⟩ := h n (by omega)
    refine ⟨l ++ [p], by simp [hl1], fun i q hq => ?_⟩
    by_cases hil : i < n
    · rw [List.getElem?_append_left (by omega)] at hq
      exact hl2 i q hq
    · have hin : i = n := by
        have := (List.getElem?_eq_some_iff.1 hq).1
        simp [hl1] at this
        omega
      subst hin
      rw [List.getElem?_append_right (by omega)] at hq
      simp [hl1] at hq
      subst hq
      exact hp

section
variable {P : Program}
theorem Opn.int {t : TypeId} {k : IntKind} (ht : P.underlying t = some (.int k)) : Opn P (Kd.int k) t (fun n => (Lit.int k n).wf = true) := by
  constructor; intro H enc w base spare held fuel cs x h
  cases fuel with
  | zero => simp [DataW.trod] at h
  | succ m =>
    unfold DataW.trod at h
    rw [ht] at h
    split at h <;> simp_all
    exact ⟨_, rfl, by simp_all⟩
theorem Opn.bool {t : TypeId} (ht : P.underlying t = some .bool) : Opn P Kd.bool t (fun _ => True) := by
  constructor; intro H enc w base spare held fuel cs x h
  cases fuel with
  | zero => simp [DataW.trod] at h
  | succ m =>
    unfold DataW.trod at h
    rw [ht] at h
    split at h
    all_goals first | exact ⟨_, rfl, trivial⟩ | simp_all
theorem Opn.slice {α : Type} {d : Kd α} {t e : TypeId} {g : α → Prop} (ht : P.underlying t = some (.slice e)) {n0 : Nat} (hc0 : P.cellsOf e = n0) (hs0 : d.sz = n0) (he : Opn P d e g) :
    Opn P (Kd.slice e d) t (fun l => l.length ≤ maxLen ∧ ∀ x ∈ l, g x) := by
  have hc : P.cellsOf e = d.sz := hc0.trans hs0.symm
  constructor; intro H enc w base spare held fuel cs x h
  rcases open_slice ht h with ⟨rfl, _⟩ | ⟨a, len, cap, m, n, D, Pl, rfl, _, hl, hm, hmm, _, hi⟩
  · exact ⟨[], ⟨none, 0, rfl, Nat.le_refl _, rfl, by simp, fun h => absurd h (by simp)⟩, by simp, by simp⟩
  · have hlm : len ≤ m := by rw [hmm]; split <;> omega
    have hone : ∀ i, i < len → ∃ p : α, g p ∧ ∃ c, c.length = d.sz ∧ d.K w p c ∧ ∀ j u, c[j]? = some u → w.cell? (a.add (i * d.sz + j)) = some u := by
      intro i hil
      obtain ⟨cs', hcs, htr⟩ := hi i (by omega)
      obtain ⟨p, hp, hg⟩ := he.out htr
      obtain ⟨_, hlen, hat⟩ := World.cells?_some hcs
      refine ⟨p, hg, cs', hlen.trans hc, hp, fun j u hj => ?_⟩
      have hjl : j < P.cellsOf e := by have := (List.getElem?_eq_some_iff.1 hj).1; omega
      have := hat j hjl
      rw [hc] at this
      rw [← Go.Deep.add_add, this, hj]
    have hall := list_of hone
    obtain ⟨l, rfl, hl2⟩ := hall
    refine ⟨l, ⟨some a, cap, rfl, hl, rfl, by unfold maxLen at hm; omega, fun _ => ⟨a, rfl, fun j p hj => (hl2 j p hj).2⟩⟩, by omega, fun x hx => ?_⟩
    obtain ⟨i, hi, rfl⟩ := List.getElem_of_mem hx
    exact (hl2 i _ (List.getElem?_eq_getElem hi)).1
theorem Opn.iso {α β : Type} {d : Kd α} {t : TypeId} {g : α → Prop} (f : β → α) (b : α → β) (hfb : ∀ a, f (b a) = a) (h : Opn P d t g) : Opn P (Kd.iso d f) t (fun x => g (f x)) := by
  constructor; intro H enc w base spare held fuel cs x hx
  obtain ⟨a, hk, hg⟩ := h.out hx
  exact ⟨b a, by show d.K w (f (b a)) cs; rw [hfb]; exact hk, by show g (f (b a)); rw [hfb]; exact hg⟩

def andG {α β : Type} (g : α → Prop) (gs : β → Prop) : α × β → Prop := fun x => g x.1 ∧ gs x.2
/-- The fields of a struct, from one on. -/
structure OpnF {α : Type} (P : Program) (d : Kd α) (off : Nat) (fs : List Field) (good : α → Prop) : Prop where
  out : ∀ {H : Type} {enc : TypeId × Value → H} {w : World} {base : Nat} {spare : Nat → Bool} {held : Bool} {fuel : Nat} {cs : List Value},
    cs.length = off + d.sz → (∀ f ∈ fs, ∃ y, DataW.trod enc P w base spare held fuel f.type ((cs.drop f.offset).take (P.cellsOf f.type)) = some y) → ∃ a, d.K w a (cs.drop off) ∧ good a
theorem OpnF.one {α : Type} {d : Kd α} {f : Field} {g : α → Prop} {off : Nat} (ho : f.offset = off) {n0 : Nat} (hc0 : P.cellsOf f.type = n0) (hs0 : d.sz = n0) (h : Opn P d f.type g) : OpnF P d off [f] g := by
  have hc : P.cellsOf f.type = d.sz := hc0.trans hs0.symm
  constructor; intro H enc w base spare held fuel cs hl hf
  obtain ⟨y, hy⟩ := hf f (by simp)
  rw [ho, hc, List.take_of_length_le (by simp; omega)] at hy
  exact h.out hy
theorem OpnF.cons {α β : Type} {d : Kd α} {ds : Kd β} {f : Field} {fs : List Field} {g : α → Prop} {gs : β → Prop} {off : Nat} (ho : f.offset = off) {n0 : Nat} (hc0 : P.cellsOf f.type = n0) (hs0 : d.sz = n0) (h : Opn P d f.type g) (hs : OpnF P ds (off + d.sz) fs gs) :
    OpnF P (Kd.pair d ds) off (f :: fs) (andG g gs) := by
  have hc : P.cellsOf f.type = d.sz := hc0.trans hs0.symm
  constructor; intro H enc w base spare held fuel cs hl hf
  obtain ⟨y, hy⟩ := hf f (by simp)
  rw [ho, hc] at hy
  obtain ⟨a, ha, hga⟩ := h.out hy
  obtain ⟨b, hb, hgb⟩ := hs.out (cs := cs) (by rw [hl]; show off + (d.sz + ds.sz) = _; omega) (fun f' hf' => hf f' (List.mem_cons_of_mem _ hf'))
  refine ⟨(a, b), ⟨_, _, ?_, ha, hb⟩, hga, hgb⟩
  rw [← List.drop_drop, List.take_append_drop]
theorem Opn.struct {α : Type} {d : Kd α} {t : TypeId} {L : List Field} {g : α → Prop} (ht : P.underlying t = some (.struct L.toArray)) {n0 : Nat} (hc0 : P.cellsOf t = n0) (hs0 : d.sz = n0) (h : OpnF P d 0 L g) : Opn P d t g := by
  have hc : P.cellsOf t = d.sz := hc0.trans hs0.symm
  constructor; intro H enc w base spare held fuel cs x hx
  obtain ⟨xs, n, _, _, hlen, hxs, hf⟩ := DataW.trod_struct ht hx
  obtain ⟨a, ha, hg⟩ := h.out (enc := enc) (w := w) (base := base) (spare := spare) (held := held) (fuel := n) (cs := cs) (by rw [hlen, hc]; omega) (fun f hm => by
    obtain ⟨i, hi, rfl⟩ := List.getElem_of_mem hm
    have h1 := hf i L[i] (by simp [hi])
    have hi2 : i < xs.length := by simp at hxs; omega
    exact ⟨xs[i], h1.trans (List.getElem?_eq_getElem hi2)⟩)
  exact ⟨a, by simpa using ha, hg⟩
end
end Go.Proofs.YtkglpfdoefdhdaaW.Open

namespace Go.Proofs.Ytkglpfdoefdhdaa.Q
open Go.RowKit Go.Proofs.YtkglpfdoefdhdaaW.PrintWords Go.Proofs.YtkglpfdoefdhdaaW.PrintLast Go.Proofs.YtkglpfdoefdhdaaW.PrintMore
attribute [local go_sem] max2_int min2_int max_two min_two max_three min_three max_four min_four
set_option linter.unusedVariables false
set_option linter.unusedSimpArgs false

open Go.Proofs.YtkglpfdoefdhdaaW.Open
def g46 (x : S46) : Prop := (Lit.int .i64 x.f0).wf = true ∧ (Lit.int .i64 x.f1).wf = true ∧ (x.f2.length ≤ maxLen ∧ ∀ y ∈ x.f2, (Lit.int .i64 y).wf = true)
theorem opn46 : Opn Try.prog k46 46 g46 := by
  show Opn Try.prog (Kd.iso (Kd.pair (Kd.int .i64) (Kd.pair (Kd.int .i64) (Kd.slice 3 (Kd.int .i64)))) (fun x : S46 => (x.f0, x.f1, x.f2))) 46 (fun x : S46 => (andG (fun x => (Lit.int .i64 x).wf = true) (andG (fun x => (Lit.int .i64 x).wf = true) (fun x => (x.length ≤ maxLen ∧ ∀ y ∈ x, (Lit.int .i64 y).wf = true)))) ((fun x : S46 => (x.f0, x.f1, x.f2)) x))
  refine Opn.iso (g := (andG (fun x => (Lit.int .i64 x).wf = true) (andG (fun x => (Lit.int .i64 x).wf = true) (fun x => (x.length ≤ maxLen ∧ ∀ y ∈ x, (Lit.int .i64 y).wf = true))))) (fun x : S46 => (x.f0, x.f1, x.f2)) (fun a : Int × Int × (List Int) => (⟨a.1, a.2.1, a.2.2⟩ : S46)) (fun _ => rfl) ?_
  refine Opn.struct Try.underlying46 (n0 := 3) (by kernel_rfl) rfl ?_
  refine OpnF.cons (n0 := 1) rfl ?_ rfl ?_ ?_
  · kernel_rfl
  · exact (Opn.int Try.underlying3)
  refine OpnF.cons (n0 := 1) rfl ?_ rfl ?_ ?_
  · kernel_rfl
  · exact (Opn.int Try.underlying3)
  refine OpnF.one (n0 := 1) rfl ?_ rfl ?_
  · kernel_rfl
  · exact (Opn.slice Try.underlying24 (n0 := 1) (by kernel_rfl) rfl (Opn.int Try.underlying3))
def g48 (x : S48) : Prop := (Lit.int .i64 x.f0).wf = true ∧ (Lit.int .i64 x.f1).wf = true ∧ (Lit.int .i64 x.f2).wf = true ∧ (Lit.int .i64 x.f3).wf = true
theorem opn48 : Opn Try.prog k48 48 g48 := by
  show Opn Try.prog (Kd.iso (Kd.pair (Kd.int .i64) (Kd.pair (Kd.int .i64) (Kd.pair (Kd.int .i64) (Kd.int .i64)))) (fun x : S48 => (x.f0, x.f1, x.f2, x.f3))) 48 (fun x : S48 => (andG (fun x => (Lit.int .i64 x).wf = true) (andG (fun x => (Lit.int .i64 x).wf = true) (andG (fun x => (Lit.int .i64 x).wf = true) (fun x => (Lit.int .i64 x).wf = true)))) ((fun x : S48 => (x.f0, x.f1, x.f2, x.f3)) x))
  refine Opn.iso (g := (andG (fun x => (Lit.int .i64 x).wf = true) (andG (fun x => (Lit.int .i64 x).wf = true) (andG (fun x => (Lit.int .i64 x).wf = true) (fun x => (Lit.int .i64 x).wf = true))))) (fun x : S48 => (x.f0, x.f1, x.f2, x.f3)) (fun a : Int × Int × Int × Int => (⟨a.1, a.2.1, a.2.2.1, a.2.2.2⟩ : S48)) (fun _ => rfl) ?_
  refine Opn.struct Try.underlying48 (n0 := 4) (by kernel_rfl) rfl ?_
  refine OpnF.cons (n0 := 1) rfl ?_ rfl ?_ ?_
  · kernel_rfl
  · exact (Opn.int Try.underlying3)
  refine OpnF.cons (n0 := 1) rfl ?_ rfl ?_ ?_
  · kernel_rfl
  · exact (Opn.int Try.underlying3)
  refine OpnF.cons (n0 := 1) rfl ?_ rfl ?_ ?_
  · kernel_rfl
  · exact (Opn.int Try.underlying3)
  refine OpnF.one (n0 := 1) rfl ?_ rfl ?_
  · kernel_rfl
  · exact (Opn.int Try.underlying3)
end Go.Proofs.Ytkglpfdoefdhdaa.Q

namespace Go.Proofs.Ytkglpfdoefdhdaa.Q
open Go.RowKit Go.Proofs.YtkglpfdoefdhdaaW.PrintWords Go.Proofs.YtkglpfdoefdhdaaW.PrintLast Go.Proofs.YtkglpfdoefdhdaaW.PrintMore
attribute [local go_sem] max2_int min2_int max_two min_two max_three min_three max_four min_four
set_option linter.unusedVariables false
set_option linter.unusedSimpArgs false

/-- What the walk of laws_FnExactFewestRepairs is to show. -/
def laws_FnExactFewestRepairs.Goal : Prop := ∀ (a0_0 : Int) (a0_1 : Int) (l0_2 : List Int) (l1 : List (S48)) (a2 : Int) (A0_2 : Option Addr) (c0_2 : Nat) (A1 : Option Addr) (c1 : Nat) (w : World) (hr0_2 : Kd.C (Kd.int .i64) w A0_2 l0_2.length l0_2) (hc0_2 : l0_2.length ≤ c0_2) (hr1 : Kd.C k48 w A1 l1.length l1) (hc1 : l1.length ≤ c1) (q0 : g46 (⟨a0_0, a0_1, l0_2⟩ : S46)) (q1 : (l1.length ≤ maxLen ∧ ∀ x ∈ l1, g48 x)) (q2 : (Lit.int .i64 a2).wf = true),
    Calls Try.prog 5 #[.agg #[.int .i64 a0_0, .int .i64 a0_1, .slice A0_2 l0_2.length c0_2], .slice A1 l1.length c1, .int .i64 a2] w fun e w' => e = .returned (.bool true) ∧ Below w.heap.size w w'
end Go.Proofs.Ytkglpfdoefdhdaa.Q

namespace Go.Proofs.YtkglpfdoefdhdaaW.SL
open Go Go.RowKit Go.Proofs.YtkglpfdoefdhdaaW.PrintWords
set_option linter.unusedSimpArgs false
set_option linter.unusedVariables false

/-! ### slots -/
abbrev Sl := List (Nat × Value)
def lk : Sl → Nat → Option Value
  | [], _ => none
  | (k, v) :: r, t => bif Nat.beq k t then some v else lk r t
def ev (L : Sl) : Operand → Option Value
  | .tmp t => lk L t
  | .const v => some v
  | .global g => some (.pointer (some ⟨g, 0, none⟩))
  | .func f => some (.func (.func f) #[] #[])
def evs (L : Sl) : List Operand → Option (List Value)
  | [] => some []
  | x :: r => match ev L x, evs L r with
    | some v, some vs => some (v :: vs)
    | _, _ => none
structure Fr (N : Nat) (a : Act) (L : Sl) : Prop where
  size : N ≤ a.tmps.size
  defers : a.defers = []
  at_ : ∀ t v, lk L t = some v → a.tmps[t]? = some v
section
variable {N : Nat} {a : Act} {L L' : Sl} {x : Operand} {v : Value}
theorem beq_no {k t : Nat} (e : ¬ k = t) : Nat.beq k t = false := by
  cases h : Nat.beq k t with
  | false => rfl
  | true => exact absurd (Nat.eq_of_beq_eq_true h) e
theorem Fr.ev (h : Fr N a L) (hx : ev L x = some v) : a.eval x = v := by
  cases x with
  | tmp t =>
    have := h.at_ t v hx
    simp only [Act.eval, Array.getD_eq_getD_getElem?, this, Option.getD_some]
  | const w => simpa [SL.ev, Act.eval] using hx
  | global g => simpa [SL.ev, Act.eval] using hx
  | func f => simpa [SL.ev, Act.eval] using hx
theorem Fr.evs (h : Fr N a L) : ∀ {xs : List Operand} {vs : List Value}, evs L xs = some vs → xs.map a.eval = vs
  | [], vs, hx => by simpa [SL.evs] using hx
  | x :: r, vs, hx => by
    unfold SL.evs at hx
    cases h1 : SL.ev L x with
    | none => simp [h1] at hx
    | some v =>
      cases h2 : SL.evs L r with
      | none => simp [h1, h2] at hx
      | some vs' =>
        simp only [h1, h2, Option.some.injEq] at hx
        subst hx
        simp [h.ev h1, h.evs h2]
theorem Fr.put (h : Fr N a L) {d : Nat} (hd : Nat.blt d N = true) (v : Value) : Fr N (a.put (some d) v) ((d, v) :: L) := by
  have hd' : d < N := by simpa [Nat.blt_eq] using hd
  refine ⟨by simpa [Act.put] using h.size, h.defers, fun t u hu => ?_⟩
  unfold lk at hu
  simp only [Act.put]
  by_cases e : d = t
  · subst e
    rw [show Nat.beq d d = true by simp] at hu
    simp only [cond_true, Option.some.injEq] at hu
    subst hu
    have := h.size
    rw [Array.getElem?_setIfInBounds_self_of_lt (by omega)]
  · rw [beq_no e] at hu
    simp only [cond_false] at hu
    rw [Array.getElem?_setIfInBounds_ne (by omega)]
    exact h.at_ t u hu
theorem Fr.put_none (h : Fr N a L) (v : Value) : Fr N (a.put none v) L := h
/-- What is told of the slots in L' is told in L. -/
def Sub : Sl → Sl → Prop
  | [], _ => True
  | p :: r, L => lk L p.1 = some p.2 ∧ Sub r L
theorem Sub.lk : ∀ {L' L : Sl}, Sub L' L → ∀ t v, lk L' t = some v → lk L t = some v
  | [], _, _, t, v, h => by simp [SL.lk] at h
  | p :: r, L, ⟨h1, h2⟩, t, v, h => by
    obtain ⟨k, u⟩ := p
    unfold SL.lk at h
    by_cases e : k = t
    · subst e
      rw [show Nat.beq k k = true by simp] at h
      simp only [cond_true, Option.some.injEq] at h
      subst h
      exact h1
    · rw [beq_no e] at h
      exact Sub.lk h2 t v h
theorem Fr.sub (h : Fr N a L) (hs : Sub L' L) : Fr N a L' := ⟨h.size, h.defers, fun t v hv => h.at_ t v (hs.lk t v hv)⟩
end
/-- Is the operation carried out (its guard)? -/
def wants (ops : Array Oper) (L : Sl) (o : Oper) : Option Bool :=
  match o.guard with
  | none => some true
  | some (j, want) => match (ops[j]?).bind (·.dst) with
    | none => none
    | some t => match lk L t with
      | some (.bool b) => some (b == want)
      | some (.tuple _) => some false
      | _ => none
theorem Fr.wants {N : Nat} {a : Act} {L : Sl} {ops : Array Oper} {o : Oper} {b : Bool} (h : Fr N a L) (hw : wants ops L o = some b) : Region.wanted o (yielded ops a.tmps) = b := by
  unfold SL.wants at hw
  unfold Region.wanted
  cases hg : o.guard with
  | none => simp only [hg, Option.some.injEq] at hw ⊢; exact hw
  | some p =>
    obtain ⟨j, want⟩ := p
    simp only [hg] at hw ⊢
    cases hj : (ops[j]?).bind (·.dst) with
    | none => simp [hj] at hw
    | some t =>
      simp only [hj] at hw
      cases hl : lk L t with
      | none => simp [hl] at hw
      | some u =>
        have := h.at_ t _ hl
        unfold yielded
        rw [hj, Option.bind_some, this]
        cases u <;> simp only [hl, Option.some.injEq, reduceCtorEq] at hw
        · rename_i c
          rw [← hw]
          cases c <;> cases want <;> rfl
        · rw [← hw]
          rfl

/-! ### memory -/
/-- A thing in memory that may be written: p w S: it is there, in the blocks S. -/
structure ItemS where
  p : World → (Nat → Prop) → Prop
  lt : ∀ {w S k}, p w S → S k → k < w.heap.size
  loc : ∀ {w w' : World} {S}, p w S → (∀ k, S k → w'.heap[k]? = w.heap[k]?) → p w' S
/-- A block of the call's own; a row of its own (elements of kind d and type e, made from block b on); anything else. -/
inductive Item : Type 1
  | box (g T : Nat) (cs : List Value)
  | row {α : Type} (d : Kd α) (e b : Nat) (v : Value) (xs : List α)
  /-- As row; no two elements lead to one block. -/
  | rowS {α : Type} (d : Kd α) (e b : Nat) (v : Value) (xs : List α)
  /-- As rowS, without element i: its cells are c, what it leads to (u) is told apart. -/
  | lent {α : Type} (d : Kd α) (e b : Nat) (v : Value) (xs : List α) (i : Int) (c : List Value) (u : Value)
  | any (i : ItemS)
def Item.p : Item → World → (Nat → Prop) → Prop
  | .box g T cs, w, S => w.heap[g]? = some (.cells cs.toArray T (0, 0)) ∧ ∀ k, S k ↔ k = g
  | .row d e b v xs, w, S => d.R e w b S v xs ∧ ∀ k, S k → k < w.heap.size
  | .rowS d e b v xs, w, S => Kd.S d e w b S v xs ∧ ∀ k, S k → k < w.heap.size
  | .lent d e b v xs i c u, w, S => ∃ ok oki : Nat → Prop, Kd.H d e w b ok v xs i oki c ∧ (∀ k, u.ownBlock = some k → oki k) ∧ (∀ k, S k ↔ (ok k ∧ ¬ oki k) ∧ k < w.heap.size) ∧ ∀ k, oki k → k < w.heap.size
  | .any i, w, S => i.p w S
theorem Item.lt : ∀ (i : Item) {w : World} {S : Nat → Prop} {k : Nat}, i.p w S → S k → k < w.heap.size
  | .box g T cs, w, S, k, h, hk => by rw [(h.2 k).1 hk]; exact blk_lt h.1
  | .row d e b v xs, w, S, k, h, hk => h.2 k hk
  | .rowS d e b v xs, w, S, k, h, hk => h.2 k hk
  | .lent d e b v xs i c u, w, S, k, ⟨_, _, _, _, h, _⟩, hk => ((h k).1 hk).2
  | .any i, w, S, k, h, hk => i.lt h hk
theorem Item.loc : ∀ (i : Item) {w w' : World} {S : Nat → Prop}, i.p w S → w.heap.size ≤ w'.heap.size → (∀ k, S k → w'.heap[k]? = w.heap[k]?) → i.p w' S
  | .box g T cs, w, w', S, h, _, hm => ⟨(hm g ((h.2 g).2 rfl)).trans h.1, h.2⟩
  | .row d e b v xs, w, w', S, h, hs, hm => ⟨Kd.R_move h.1 hm, fun k hk => Nat.lt_of_lt_of_le (h.2 k hk) hs⟩
  | .rowS d e b v xs, w, w', S, h, hs, hm => ⟨Kd.S_move h.1 hm, fun k hk => Nat.lt_of_lt_of_le (h.2 k hk) hs⟩
  | .lent d e b v xs i c u, w, w', S, ⟨ok, oki, h1, h2, h3, h4⟩, hs, hm => by
    have hb : Kd.H d e w b (fun k => ok k ∧ k < w.heap.size) v xs i oki c := by
      obtain ⟨g0, f, g1⟩ := h1
      exact ⟨fun k hk => ⟨g0 k hk, h4 k hk⟩, f, Kd.R_mono (Kd.R_bound g1) (fun k hk => ⟨⟨hk.1.1, hk.2.2.1⟩, hk.1.2⟩)⟩
    refine ⟨fun k => ok k ∧ k < w.heap.size, oki, Kd.H_step hb (fun k hk hn hlt => hm k ((h3 k).2 ⟨⟨hk.1, hn⟩, hlt⟩)), h2, fun k => ?_, fun k hk => Nat.lt_of_lt_of_le (h4 k hk) hs⟩
    rw [h3 k]
    constructor
    · rintro ⟨⟨g1, g2⟩, g3⟩
      exact ⟨⟨⟨g1, g3⟩, g2⟩, by omega⟩
    · rintro ⟨⟨⟨g1, g3⟩, g2⟩, _⟩
      exact ⟨⟨g1, g2⟩, g3⟩
  | .any i, w, w', S, h, _, hm => i.loc h hm
/-- All items, apart from one another, in the blocks S. -/
def Own : List Item → World → (Nat → Prop) → Prop
  | [], _, S => ∀ k, ¬ S k
  | i :: r, w, S => ∃ A B, i.p w A ∧ Own r w B ∧ (∀ k, S k ↔ A k ∨ B k) ∧ ∀ k, A k → ¬ B k
theorem Own.lt : ∀ {its : List Item} {w : World} {S : Nat → Prop}, Own its w S → ∀ k, S k → k < w.heap.size
  | [], _, _, h, k, hk => absurd hk (h k)
  | i :: r, w, S, ⟨A, B, h1, h2, h3, _⟩, k, hk => ((h3 k).1 hk).elim (fun ha => i.lt h1 ha) (fun hb => h2.lt k hb)
theorem Own.loc : ∀ {its : List Item} {w w' : World} {S : Nat → Prop}, Own its w S → w.heap.size ≤ w'.heap.size → (∀ k, S k → w'.heap[k]? = w.heap[k]?) → Own its w' S
  | [], _, _, _, h, _, _ => h
  | i :: r, w, w', S, ⟨A, B, h1, h2, h3, h4⟩, hs, hm => ⟨A, B, i.loc h1 hs (fun k hk => hm k ((h3 k).2 (.inl hk))), h2.loc hs (fun k hk => hm k ((h3 k).2 (.inr hk))), h3, h4⟩
/-- Item n by itself; and what stands there behind it. -/
theorem Own.focus : ∀ {its : List Item} {n : Nat} {i : Item} {w : World} {S : Nat → Prop}, its[n]? = some i → Own its w S → ∃ A, i.p w A ∧ (∀ k, A k → S k) ∧
    ∀ (w' : World) (i' : Item) (A' : Nat → Prop), i'.p w' A' → w.heap.size ≤ w'.heap.size → (∀ k, A' k → ¬ S k ∨ A k) → (∀ k, S k → ¬ A k → w'.heap[k]? = w.heap[k]?) → Own (its.set n i') w' (fun k => A' k ∨ (S k ∧ ¬ A k))
  | [], _, _, _, _, hn, _ => by simp at hn
  | j :: r, 0, i, w, S, hn, ⟨A, B, h1, h2, h3, h4⟩ => by
    obtain rfl : j = i := by simpa using hn
    refine ⟨A, h1, fun k hk => (h3 k).2 (.inl hk), fun w' i' A' hi' hs hA' hm => ?_⟩
    refine ⟨A', B, hi', h2.loc hs (fun k hk => hm k ((h3 k).2 (.inr hk)) (fun ha => h4 k ha hk)), fun k => ?_, fun k hk hb => ?_⟩
    · constructor
      · rintro (h | ⟨h5, h6⟩)
        · exact .inl h
        · exact .inr (((h3 k).1 h5).resolve_left h6)
      · rintro (h | h)
        · exact .inl h
        · exact .inr ⟨(h3 k).2 (.inr h), fun ha => h4 k ha h⟩
    · rcases hA' k hk with h | h
      · exact h ((h3 k).2 (.inr hb))
      · exact h4 k h hb
  | j :: r, n + 1, i, w, S, hn, ⟨A, B, h1, h2, h3, h4⟩ => by
    obtain ⟨C, g1, g2, g3⟩ := Own.focus (its := r) (n := n) (by simpa using hn) h2
    refine ⟨C, g1, fun k hk => (h3 k).2 (.inr (g2 k hk)), fun w' i' A' hi' hs hA' hm => ?_⟩
    refine ⟨A, fun k => A' k ∨ (B k ∧ ¬ C k), j.loc h1 hs (fun k hk => hm k ((h3 k).2 (.inl hk)) (fun hc => h4 k hk (g2 k hc))), g3 w' i' A' hi' hs (fun k hk => ?_) (fun k hb hc => hm k ((h3 k).2 (.inr hb)) hc), fun k => ?_, fun k hk hb => ?_⟩
    · rcases hA' k hk with h | h
      · exact .inl (fun hb => h ((h3 k).2 (.inr hb)))
      · exact .inr h
    · constructor
      · rintro (h | ⟨h5, h6⟩)
        · exact .inr (.inl h)
        · rcases (h3 k).1 h5 with h | h
          · exact .inl h
          · exact .inr (.inr ⟨h, h6⟩)
      · rintro (h | h | ⟨h5, h6⟩)
        · exact .inr ⟨(h3 k).2 (.inl h), fun hc => h4 k h (g2 k hc)⟩
        · exact .inl h
        · exact .inr ⟨(h3 k).2 (.inr h5), h6⟩
    · rcases hb with h | ⟨h5, h6⟩
      · rcases hA' k h with h' | h'
        · exact h' ((h3 k).2 (.inl hk))
        · exact h4 k hk (g2 k h')
      · exact h4 k hk h5
/-- Two as one. -/
theorem Own.one : ∀ {its : List Item} {n : Nat} {j1 j2 i : Item} {w : World} {S : Nat → Prop}, its[n]? = some j1 → Own (j2 :: its) w S → (∀ A1 A2 : Nat → Prop, j1.p w A1 → j2.p w A2 → (∀ k, A1 k → ¬ A2 k) → i.p w (fun k => A1 k ∨ A2 k)) → Own (its.set n i) w S := by
  intro its n j1 j2 i w S hn ⟨A2, C, h1, h2, h3, h4⟩ hi
  obtain ⟨A1, g1, g2, g3⟩ := h2.focus hn
  have hi' := hi A1 A2 g1 h1 (fun k hk h' => h4 k h' (g2 k hk))
  have hO := g3 w i _ hi' (Nat.le_refl _) (fun k hk => hk.elim .inr (fun h => .inl (fun hc => h4 k h hc))) (fun _ _ _ => rfl)
  refine (show (fun k => (A1 k ∨ A2 k) ∨ (C k ∧ ¬ A1 k)) = S from funext fun k => propext ?_) ▸ hO
  rw [h3 k]
  constructor
  · rintro ((h | h) | h)
    · exact .inr (g2 k h)
    · exact .inl h
    · exact .inr h.1
  · rintro (h | h)
    · exact .inl (.inr h)
    · by_cases ha : A1 k
      · exact .inl (.inl ha)
      · exact .inr ⟨h, ha⟩
/-- Item n taken out. -/
theorem Own.out : ∀ {its : List Item} {n : Nat} {i : Item} {w : World} {S : Nat → Prop}, its[n]? = some i → Own its w S → ∃ A B, i.p w A ∧ Own (its.eraseIdx n) w B ∧ (∀ k, S k ↔ A k ∨ B k) ∧ ∀ k, A k → ¬ B k
  | [], _, _, _, _, hn, _ => by simp at hn
  | j :: r, 0, i, w, S, hn, ⟨A, B, h1, h2, h3, h4⟩ => by
    obtain rfl : j = i := by simpa using hn
    exact ⟨A, B, h1, h2, h3, h4⟩
  | j :: r, n + 1, i, w, S, hn, ⟨A, B, h1, h2, h3, h4⟩ => by
    obtain ⟨C, D, g1, g2, g3, g4⟩ := Own.out (its := r) (n := n) (by simpa using hn) h2
    refine ⟨C, fun k => A k ∨ D k, g1, ⟨A, D, h1, g2, fun k => Iff.rfl, fun k ha hd => h4 k ha ((g3 k).2 (.inr hd))⟩, fun k => ?_, fun k hc hd => ?_⟩
    · rw [h3 k, g3 k]
      constructor
      · rintro (h | h | h)
        · exact .inr (.inl h)
        · exact .inl h
        · exact .inr (.inr h)
      · rintro (h | h | h)
        · exact .inr (.inl h)
        · exact .inl h
        · exact .inr (.inr h)
    · rcases hd with h | h
      · exact h4 k h ((g3 k).2 (.inl hc))
      · exact g4 k hc h
/-- W is w but for the blocks S and new ones. -/
structure Aft (S : Nat → Prop) (w W : World) : Prop where
  os : W.os = w.os
  tape : W.tape = w.tape
  output : W.output = w.output
  size : w.heap.size ≤ W.heap.size
  block : ∀ k, k < w.heap.size → ¬ S k → W.heap[k]? = w.heap[k]?
theorem Aft.refl (S : Nat → Prop) (w : World) : Aft S w w := ⟨rfl, rfl, rfl, Nat.le_refl _, fun _ _ _ => rfl⟩
theorem Aft.trans {S S' : Nat → Prop} {w w' W : World} (h : Aft S w w') (h' : Aft S' w' W) (hS : ∀ k, S' k → k < w.heap.size → S k) : Aft S w W :=
  ⟨h'.os.trans h.os, h'.tape.trans h.tape, h'.output.trans h.output, Nat.le_trans h.size h'.size, fun k hlt hn => (h'.block k (Nat.lt_of_lt_of_le hlt h.size) (fun hs => hn (hS k hs hlt))).trans (h.block k hlt hn)⟩
theorem Aft.of_below {w w' : World} (S : Nat → Prop) (h : Below w.heap.size w w') : Aft S w w' := ⟨h.os, h.tape, h.output, h.size, fun k hk _ => h.block k hk⟩
theorem Aft.below {S : Nat → Prop} {w w' : World} {B : Nat} (h : Aft S w w') (hB : B ≤ w.heap.size) (hS : ∀ k, S k → B ≤ k) : Below B w w' := ⟨h.os, h.tape, h.output, h.size, fun k hk => h.block k (by omega) (fun hs => by have := hS k hs; omega)⟩
theorem Aft.all {w w' : World} {S : Nat → Prop} (h : Aft S w w') (hS : ∀ k, k < w.heap.size → ¬ S k) : Below w.heap.size w w' := ⟨h.os, h.tape, h.output, h.size, fun k hk => h.block k hk (hS k hk)⟩
/-- A fact that lasts: whatever happens to the blocks S and to new ones. -/
def Sta (S : Nat → Prop) (w : World) (p : World → Prop) : Prop := ∀ W : World, Aft S w W → p W
theorem Sta.now {S : Nat → Prop} {w : World} {p : World → Prop} (h : Sta S w p) : p w := h w (Aft.refl S w)
theorem Sta.step {S S' : Nat → Prop} {w w' : World} {p : World → Prop} (h : Sta S w p) (ha : Aft S w w') (hS : ∀ k, S' k → k < w.heap.size → S k) : Sta S' w' p :=
  fun W hW => h W (ha.trans hW hS)
theorem Sta.imp {S : Nat → Prop} {w : World} {p q : World → Prop} (h : Sta S w p) (hq : ∀ W, p W → q W) : Sta S w q := fun W h1 => hq W (h W h1)
/-- Where a call began: its world, and what of it the call may write. -/
structure Base where
  w : World
  S : Nat → Prop
abbrev base (w : World) : Base := ⟨w, fun _ => False⟩
/-- The world at some point of a call that began at B. -/
structure WS (B : Base) (w : World) (its : List Item) (ps : List (World → Prop)) : Prop where
  aft : Aft B.S B.w w
  own : ∃ S, Own its w S ∧ (∀ k, S k → B.S k ∨ B.w.heap.size ≤ k) ∧ ∀ p ∈ ps, Sta S w p
section
variable {B : Base} {w w' : World} {its its' : List Item} {ps ps' : List (World → Prop)}
theorem WS.start (w : World) : WS (base w) w [] [] := ⟨Aft.refl _ _, fun _ => False, fun k h => h, fun k h => h.elim, fun p hp => by cases hp⟩
theorem WS.startW {w : World} {S : Nat → Prop} (h : Own its w S) (hp : ∀ p ∈ ps, Sta S w p) : WS ⟨w, S⟩ w its ps := ⟨Aft.refl _ _, S, h, fun k h => .inl h, hp⟩
theorem WS.below {w0 : World} (h : WS (base w0) w its ps) : Below w0.heap.size w0 w := h.aft.all (fun _ _ hk => hk)
theorem WS.size (h : WS B w its ps) : B.w.heap.size ≤ w.heap.size := h.aft.size
/-- Nothing of what was there has been touched. -/
theorem WS.call (h : WS B w its ps) (hb : Below w.heap.size w w') : WS B w' its ps := by
  obtain ⟨h1, S, h2, h3, h4⟩ := h
  exact ⟨h1.trans (Aft.of_below (fun _ => False) hb) (fun k hk _ => hk.elim), S, h2.loc hb.size (fun k hk => hb.block k (h2.lt k hk)), h3, fun p hp => (h4 p hp).step (Aft.of_below S hb) (fun k hk _ => hk)⟩
theorem WS.fact (h : WS B w its ps) {p : World → Prop} (hp : p ∈ ps) : p w := by
  obtain ⟨_, S, _, _, h4⟩ := h
  exact (h4 p hp).now
theorem WS.at (h : WS B w its ps) (n : Nat) {p : World → Prop} (hn : ps[n]? = some p) : p w := h.fact (List.mem_of_getElem? hn)
theorem WS.sub (h : WS B w its ps) (hs : ∀ p ∈ ps', p ∈ ps) : WS B w its ps' := by
  obtain ⟨h1, S, h2, h3, h4⟩ := h
  exact ⟨h1, S, h2, h3, fun p hp => h4 p (hs p hp)⟩
theorem WS.imp (h : WS B w its ps) {p q : World → Prop} (hp : p ∈ ps) (hq : ∀ W, p W → q W) : WS B w its (q :: ps) := by
  obtain ⟨h1, S, h2, h3, h4⟩ := h
  refine ⟨h1, S, h2, h3, fun r hr => ?_⟩
  rcases List.mem_cons.1 hr with rfl | hr
  · exact (h4 p hp).imp hq
  · exact h4 r hr
/-- A fact that lasts, out of the others. -/
theorem WS.lay (h : WS B w its ps) {q : World → Prop} (hq : ∀ S, Own its w S → (∀ p ∈ ps, Sta S w p) → Sta S w q) : WS B w its (q :: ps) := by
  obtain ⟨h1, S, h2, h3, h4⟩ := h
  refine ⟨h1, S, h2, h3, fun r hr => ?_⟩
  rcases List.mem_cons.1 hr with rfl | hr
  · exact hq S h2 h4
  · exact h4 r hr
/-- One more item, in new blocks. -/
theorem WS.new (h : WS B w its ps) (hb : Below w.heap.size w w') {i : Item} {A : Nat → Prop} (hi : i.p w' A) (hA : ∀ k, A k → w.heap.size ≤ k) : WS B w' (i :: its) ps := by
  have hc := h.call hb
  obtain ⟨h1, S, h2, h3, h4⟩ := h
  refine ⟨hc.aft, fun k => A k ∨ S k, ⟨A, S, hi, h2.loc hb.size (fun k hk => hb.block k (h2.lt k hk)), fun k => Iff.rfl, fun k ha hs => by have := hA k ha; have := h2.lt k hs; omega⟩, ?_, fun p hp => (h4 p hp).step (Aft.of_below S hb) (fun k hk hlt => ?_)⟩
  · rintro k (hk | hk)
    · exact .inr (Nat.le_trans h1.size (hA k hk))
    · exact h3 k hk
  · rcases hk with hk | hk
    · have := hA k hk; omega
    · exact hk
/-- Item n is another one now; nothing else was touched. -/
theorem WS.upd (h : WS B w its ps) {n : Nat} {i i' : Item} (hn : its[n]? = some i)
    (hw : ∀ A, i.p w A → (∀ k, A k → B.S k ∨ B.w.heap.size ≤ k) → ∃ A', i'.p w' A' ∧ (∀ k, A' k → k < w.heap.size → A k) ∧ Aft A w w') : WS B w' (its.set n i') ps := by
  obtain ⟨h1, S, h2, h3, h4⟩ := h
  obtain ⟨A, g1, g2, g3⟩ := h2.focus hn
  obtain ⟨A', e1, e2, e3⟩ := hw A g1 (fun k hk => h3 k (g2 k hk))
  have hS := h2.lt
  have e3' : Aft S w w' := ⟨e3.os, e3.tape, e3.output, e3.size, fun k hk hn => e3.block k hk (fun ha => hn (g2 k ha))⟩
  refine ⟨h1.trans e3 (fun k hk hlt => (h3 k (g2 k hk)).resolve_right (by omega)), _, g3 w' i' A' e1 e3.size (fun k hk => ?_) (fun k hs ha => e3.block k (hS k hs) ha), ?_, fun p hp => (h4 p hp).step e3' ?_⟩
  · by_cases hlt : k < w.heap.size
    · exact .inr (e2 k hk hlt)
    · exact .inl (fun hs => hlt (hS k hs))
  · rintro k (hk | hk)
    · by_cases hlt : k < w.heap.size
      · exact h3 k (g2 k (e2 k hk hlt))
      · exact .inr (Nat.le_trans h1.size (by omega))
    · exact h3 k hk.1
  · rintro k (hk | hk) hlt
    · exact g2 k (e2 k hk hlt)
    · exact hk.1
/-- Item n is written no more: a fact on it that lasts. -/
theorem WS.freeze (h : WS B w its ps) {n : Nat} {i : Item} (hn : its[n]? = some i) {p : World → Prop} (hp : ∀ W A, i.p W A → p W) : WS B w (its.eraseIdx n) (p :: ps) := by
  obtain ⟨h1, S, h2, h3, h4⟩ := h
  obtain ⟨A, B', g1, g2, g3, g4⟩ := h2.out hn
  refine ⟨h1, B', g2, fun k hk => h3 k ((g3 k).2 (.inr hk)), fun q hq => ?_⟩
  rcases List.mem_cons.1 hq with rfl | hq
  · exact fun W hm => hp W A (i.loc g1 hm.size (fun k hk => hm.block k (i.lt g1 hk) (g4 k hk)))
  · exact (h4 q hq).step (Aft.refl S w) (fun k hk _ => (g3 k).2 (.inr hk))
theorem WS.drop (h : WS B w its ps) {n : Nat} {i : Item} (hn : its[n]? = some i) : WS B w (its.eraseIdx n) ps := by
  have := h.freeze hn (p := fun _ => True) (fun _ _ _ => trivial)
  exact this.sub (fun p hp => List.mem_cons_of_mem _ hp)
/-- An item by itself. -/
theorem WS.item (h : WS B w its ps) {i : Item} (hi : i ∈ its) : ∃ A, i.p w A := by
  obtain ⟨_, S, h2, _, _⟩ := h
  obtain ⟨n, hn⟩ := List.mem_iff_getElem?.1 hi
  obtain ⟨A, g1, _⟩ := h2.focus hn
  exact ⟨A, g1⟩
/-- The items told otherwise, in the same blocks. -/
theorem WS.recut (h : WS B w its ps) (ho : ∀ S, Own its w S → Own its' w S) : WS B w its' ps := by
  obtain ⟨h1, S, h2, h3, h4⟩ := h
  exact ⟨h1, S, ho S h2, h3, h4⟩
end
end Go.Proofs.YtkglpfdoefdhdaaW.SL

namespace Go.Proofs.YtkglpfdoefdhdaaW.SL
open Go Go.RowKit Go.Proofs.YtkglpfdoefdhdaaW.PrintWords
set_option linter.unusedSimpArgs false
set_option linter.unusedVariables false

/-- The cells from an address on. -/
def Cells (w : World) (ad : Addr) (cs : List Value) : Prop := ∀ j u, cs[j]? = some u → w.cell? (ad.add j) = some u

/-! #### the operations of a region, in the text's order -/
/-- Which operations of a region that draws its order are taken first; which come last of all. -/
structure Dm where
  takes : Nat → Bool
  needs : Nat → Bool
abbrev plain : Dm := ⟨fun _ => false, fun _ => false⟩
def runG (P : Program) (ops : Array Oper) (Q : Exit → Act → World → Prop) (D : Dm) : Nat → List Oper → Act → World → Prop
  | _, [], a, w => Q .normal a w
  | k, o :: r, a, w =>
    if D.takes k = true then ∃ v, YieldsIf P ops (fun W => Below w.heap.size w W) o v a ∧ runG P ops Q D (k + 1) r (a.put o.dst v) w
    else if Region.wanted o (yielded ops a.tmps) = true then o.wp P a w (fun a' w' => (D.needs k = true → Below w.heap.size w w') ∧ runG P ops Q D (k + 1) r a' w') Q
    else runG P ops Q D (k + 1) r (a.put o.dst undef) w
theorem wpList_of_run {P : Program} {ops : Array Oper} {Q : Exit → Act → World → Prop} : ∀ (l : List Oper) (k : Nat) (a : Act) (w : World), runG P ops Q plain k l a w → wpList P ops Q l a w
  | [], _, _, _, h => h
  | o :: r, k, a, w, h => by
    unfold runG at h
    rw [if_neg (by simp)] at h
    unfold wpList
    split
    · rename_i hw
      rw [if_pos hw] at h
      exact .inl (Oper.wp_mono (fun a' w' h' => wpList_of_run r (k + 1) a' w' h'.2) h)
    · rename_i hw
      rw [if_neg hw] at h
      exact wpList_of_run r (k + 1) _ _ h

section
variable (P : Program) (N : Nat) (B : Base)
/-- From the slots L, the items its, the facts ps on: K. -/
structure Ej (K : Act → World → Prop) (L : Sl) (its : List Item) (ps : List (World → Prop)) : Prop where
  mk :: (out : ∀ a w, Fr N a L → WS B w its ps → K a w)
structure Jl (D : Dm) (k : Nat) (ops : Array Oper) (Q : Exit → Act → World → Prop) (rest : List Oper) (L : Sl) (its : List Item) (ps : List (World → Prop)) : Prop where
  mk :: (out : ∀ a w, Fr N a L → WS B w its ps → runG P ops Q D k rest a w)
structure Cj (c : Code) (Q : Exit → Act → World → Prop) (L : Sl) (its : List Item) (ps : List (World → Prop)) : Prop where
  mk :: (out : ∀ a w, Fr N a L → WS B w its ps → c.wp P Q a w)
/-- The operation yields v and touches nothing. -/
structure Yd (o : Oper) (v : Value) (L : Sl) (its : List Item) (ps : List (World → Prop)) : Prop where
  mk :: (out : ∀ a w, Fr N a L → WS B w its ps → (execOp a.eval o).run P w = .ok (.value v) w)
end

section
variable {P : Program} {N : Nat} {B : Base} {L L' : Sl} {its its' : List Item} {ps ps' : List (World → Prop)} {Q : Exit → Act → World → Prop} {D : Dm} {k : Nat} {ops : Array Oper} {rest : List Oper} {o : Oper} {c c1 c2 : Code} {d t T n : Nat} {v v2 : Value} {b : Bool}

instance {K : Act → World → Prop} : CoeFun (Ej N B K L its ps) (fun _ => ∀ a w, Fr N a L → WS B w its ps → K a w) := ⟨Ej.out⟩
instance : CoeFun (Jl P N B D k ops Q rest L its ps) (fun _ => ∀ a w, Fr N a L → WS B w its ps → runG P ops Q D k rest a w) := ⟨Jl.out⟩
instance : CoeFun (Cj P N B c Q L its ps) (fun _ => ∀ a w, Fr N a L → WS B w its ps → c.wp P Q a w) := ⟨Cj.out⟩
instance : CoeFun (Yd P N B o v L its ps) (fun _ => ∀ a w, Fr N a L → WS B w its ps → (execOp a.eval o).run P w = .ok (.value v) w) := ⟨Yd.out⟩
/-! #### code -/
theorem Cj.seq (hc : c = .seq c1 c2) (h : Cj P N B c1 (Exit.then (c2.wp P Q) Q) L its ps) : Cj P N B c Q L its ps := by
  subst hc
  refine ⟨?_⟩
  exact fun a w hf hw => wp_seq (h a w hf hw)
theorem Cj.region {id : Nat} (hc : c = .region id ops false) (h : Jl P N B plain 0 ops Q ops.toList L its ps) : Cj P N B c Q L its ps := by
  subst hc
  refine ⟨?_⟩
  exact fun a w hf hw => wp_region_list (wpList_of_run _ _ _ _ (h a w hf hw))
theorem Cj.cond {z : Operand} (hc : c = .cond z c1 c2) (hz : ev L z = some (.bool b)) (ht : b = true → Cj P N B c1 Q L its ps) (hf : b = false → Cj P N B c2 Q L its ps) : Cj P N B c Q L its ps := by
  subst hc
  refine ⟨?_⟩
  exact fun a w hF hw => wp_cond_split (hF.ev hz) (fun e => ht e a w hF hw) (fun e => hf e a w hF hw)
theorem Cj.condT {z : Operand} (hc : c = .cond z c1 c2) (hz : ev L z = some (.bool true)) (h : Cj P N B c1 Q L its ps) : Cj P N B c Q L its ps :=
  Cj.cond hc hz (fun _ => h) (fun e => by cases e)
theorem Cj.condF {z : Operand} (hc : c = .cond z c1 c2) (hz : ev L z = some (.bool false)) (h : Cj P N B c2 Q L its ps) : Cj P N B c Q L its ps :=
  Cj.cond hc hz (fun e => by cases e) (fun _ => h)
theorem Cj.block {id : Nat} (hc : c = .block id c1) (h : Cj P N B c1 (Exit.inBlock id Q) L its ps) : Cj P N B c Q L its ps := by
  subst hc
  refine ⟨?_⟩
  exact fun a w hf hw => wp_block (h a w hf hw)
theorem Cj.skip (hc : c = .skip) (h : Ej N B (Q .normal) L its ps) : Cj P N B c Q L its ps := by
  subst hc
  refine ⟨?_⟩
  exact fun a w hf hw => wp_skip (h a w hf hw)
theorem Cj.exit {id : Nat} (hc : c = .exit id) (h : Ej N B (Q (.exit id)) L its ps) : Cj P N B c Q L its ps := by
  subst hc
  refine ⟨?_⟩
  exact fun a w hf hw => wp_exit (h a w hf hw)
theorem Cj.ret (hc : c = .ret) (h : Ej N B (Q .ret) L its ps) : Cj P N B c Q L its ps := by
  subst hc
  refine ⟨?_⟩
  exact fun a w hf hw => wp_ret (h a w hf hw)
theorem Jl.nil (h : Ej N B (Q .normal) L its ps) : Jl P N B D k ops Q [] L its ps := .mk <| fun a w hf hw => h a w hf hw
/-- What follows is known to be this code. -/
theorem Ej.go {K : Act → World → Prop} (h : Cj P N B c2 Q L its ps) (hK : ∀ a w, c2.wp P Q a w → K a w) : Ej N B K L its ps := .mk <| fun a w hf hw => hK a w (h a w hf hw)
theorem Ej.sub {K : Act → World → Prop} (L' : Sl) (ps' : List (World → Prop)) (hL : Sub L' L) (hp : ∀ p ∈ ps', p ∈ ps) (h : Ej N B K L' its ps') : Ej N B K L its ps := .mk <| fun a w hf hw => h a w (hf.sub hL) (hw.sub hp)
theorem Ej.cut {K : Act → World → Prop} {ι : Type} (I : ι → Prop) (Lf : ι → Sl) (If : ι → List Item) (Pf : ι → List (World → Prop)) (hK : ∀ a w, (∃ i, I i ∧ Fr N a (Lf i) ∧ WS B w (If i) (Pf i)) → K a w) (i : ι) (hi : I i) (hL : Sub (Lf i) L) (hI : its = If i) (hp : ∀ p ∈ Pf i, p ∈ ps) : Ej N B K L its ps :=
  .mk <| fun a w hf hw => hK a w ⟨i, hi, hf.sub hL, by subst hI; exact hw.sub hp⟩
/-- What lies in memory, told otherwise. -/
theorem Cj.ws {ι : Type} (I : ι → Prop) (If : ι → List Item) (Pf : ι → List (World → Prop)) (h1 : ∀ w, WS B w its ps → ∃ i, I i ∧ WS B w (If i) (Pf i)) (h : ∀ i, I i → Cj P N B c Q L (If i) (Pf i)) : Cj P N B c Q L its ps := by
  refine ⟨?_⟩
  intro a w hf hw
  obtain ⟨i, hi, hw'⟩ := h1 w hw
  exact h i hi a w hf hw'
theorem Jl.ws {ι : Type} (I : ι → Prop) (If : ι → List Item) (Pf : ι → List (World → Prop)) (h1 : ∀ w, WS B w its ps → ∃ i, I i ∧ WS B w (If i) (Pf i)) (h : ∀ i, I i → Jl P N B D k ops Q rest L (If i) (Pf i)) : Jl P N B D k ops Q rest L its ps := by
  refine ⟨?_⟩
  intro a w hf hw
  obtain ⟨i, hi, hw'⟩ := h1 w hw
  exact h i hi a w hf hw'
theorem Ej.ws {K : Act → World → Prop} {ι : Type} (I : ι → Prop) (If : ι → List Item) (Pf : ι → List (World → Prop)) (h1 : ∀ w, WS B w its ps → ∃ i, I i ∧ WS B w (If i) (Pf i)) (h : ∀ i, I i → Ej N B K L (If i) (Pf i)) : Ej N B K L its ps := by
  refine ⟨?_⟩
  intro a w hf hw
  obtain ⟨i, hi, hw'⟩ := h1 w hw
  exact h i hi a w hf hw'
/-- Some items (the youngest) are forgotten. -/
inductive DropTo : List Item → List Item → Prop
  | refl {r} : DropTo r r
  | tail {i r r'} : DropTo r r' → DropTo (i :: r) r'
theorem WS.dropTo {w : World} : ∀ {its its' : List Item}, DropTo its its' → WS B w its ps → WS B w its' ps
  | _, _, .refl, h => h
  | _, _, .tail d, h => WS.dropTo d (h.drop (n := 0) rfl)
theorem Ej.back {K : Act → World → Prop} (hK : ∀ a w, (Fr N a L' ∧ WS B w its' ps) → K a w) (hI : DropTo its its') (hL : Sub L' L) : Ej N B K L its ps := .mk <| fun a w hf hw => hK a w ⟨hf.sub hL, hw.dropTo hI⟩
theorem least {p : Nat → Prop} (h : ∃ n, p n) : ∃ n, p n ∧ ∀ m, p m → n ≤ m := by
  obtain ⟨n, hn⟩ := h
  induction n using Nat.strongRecOn with
  | _ n ih =>
    by_cases hex : ∃ m, m < n ∧ p m
    · obtain ⟨m, hlt, hm⟩ := hex
      exact ih m hlt hm
    · exact ⟨n, hn, fun m hm => Nat.le_of_not_lt fun hlt => hex ⟨m, hlt, hm⟩⟩
open Classical in
theorem Cj.loop {ι : Type} (I : ι → Prop) (Lf : ι → Sl) (If : ι → List Item) (Pf : ι → List (World → Prop)) (μ : ι → Nat) (hc : c = .loop c1) (i0 : ι) (h0 : I i0) (hL : Sub (Lf i0) L) (hI : its = If i0) (hp : ∀ p ∈ Pf i0, p ∈ ps)
    (h : ∀ i, I i → Cj P N B c1 (Exit.then (fun a w => ∃ j, (I j ∧ μ j < μ i) ∧ Fr N a (Lf j) ∧ WS B w (If j) (Pf j)) Q) (Lf i) (If i) (Pf i)) : Cj P N B c Q L its ps := by
  subst hc; subst hI
  refine ⟨?_⟩
  intro a w hf hw
  let J : Act → World → Nat → Prop := fun a w n => ∃ i, I i ∧ μ i = n ∧ Fr N a (Lf i) ∧ WS B w (If i) (Pf i)
  have hmin : ∀ a w, (∃ n, J a w n) → ∃ n, J a w n ∧ ∀ m, J a w m → n ≤ m := fun a w hn => least hn
  refine wp_loop (fun a w => ∃ n, J a w n) (fun a w => if h : ∃ n, J a w n then (hmin a w h).choose else 0) ⟨_, i0, h0, rfl, hf.sub hL, hw.sub hp⟩ (fun a w hJ => ?_)
  rw [dif_pos hJ]
  obtain ⟨i, hi, hμ, h1, h2⟩ := (hmin a w hJ).choose_spec.1
  refine Code.wp_mono (fun e a' w' q => ?_) (h i hi a w h1 h2)
  cases e with
  | normal =>
    obtain ⟨j, ⟨hj, hlt⟩, g1, g2⟩ := q
    have hJ' : ∃ n, J a' w' n := ⟨_, j, hj, rfl, g1, g2⟩
    refine ⟨hJ', ?_⟩
    rw [dif_pos hJ', ← hμ]
    exact Nat.lt_of_le_of_lt ((hmin a' w' hJ').choose_spec.2 _ ⟨j, hj, rfl, g1, g2⟩) hlt
  | exit _ => exact q
  | goto _ => exact q
  | ret => exact q
  | panic _ => exact q
  | outgrown => exact q
/-- The call's end: the one result in a slot. -/
theorem Ej.out1 {fn : Func} {R : Ending → World → Prop} {K : Act → World → Prop} (hK : ∀ a w, bodyPost P fn R .ret a w → K a w) (hr : fn.results = #[.tmp t]) (hv : lk L t = some v) (hR : ∀ w, WS B w its ps → R (.returned v) w) : Ej N B K L its ps := by
  refine ⟨?_⟩
  intro a w hf hw
  have := hf.at_ t v hv
  refine hK a w ⟨hf.defers, v, ?_, hR w hw⟩
  simp [results, hr, this]
theorem Ej.out2 {fn : Func} {R : Ending → World → Prop} {K : Act → World → Prop} (hK : ∀ a w, bodyPost P fn R .ret a w → K a w) {s : Nat} (hr : fn.results = #[.tmp t, .tmp s]) (hv : lk L t = some v) (hu : lk L s = some v2) (hR : ∀ w, WS B w its ps → R (.returned (.tuple #[v, v2])) w) : Ej N B K L its ps := by
  refine ⟨?_⟩
  intro a w hf hw
  have h1 := hf.at_ t v hv
  have h2 := hf.at_ s v2 hu
  refine hK a w ⟨hf.defers, _, ?_, hR w hw⟩
  simp [results, hr, h1, h2]
/-- A call begins: the arguments in the first slots. -/
def slots0 : Nat → List Value → Sl
  | _, [] => []
  | n, v :: r => (n, v) :: slots0 (n + 1) r
theorem slots0_lk : ∀ (args : List Value) (n : Nat) (t : Nat) (v : Value), lk (slots0 n args) t = some v → ∃ j, t = n + j ∧ args[j]? = some v
  | [], _, _, _, h => by simp [slots0, lk] at h
  | u :: r, n, t, v, h => by
    unfold slots0 lk at h
    by_cases e : n = t
    · subst e
      rw [show Nat.beq n n = true by simp] at h
      exact ⟨0, rfl, by simpa using h⟩
    · rw [beq_no e] at h
      obtain ⟨j, h1, h2⟩ := slots0_lk r (n + 1) t v h
      exact ⟨j + 1, by omega, by simpa using h2⟩
theorem enter {f : FuncId} {fn : Func} {args : List Value} {w : World} {R : Ending → World → Prop} (hf : P.funcs[f]? = some fn) (hb : fn.body = some c) (hN : fn.ntmps = N)
    (h : Cj P N (base w) c (bodyPost P fn R) (slots0 0 args) [] []) : Calls P f args.toArray w R := by
  refine calls_of_wp hf hb (h _ _ ⟨?_, rfl, fun t v hv => ?_⟩ (WS.start w))
  · simp only [Array.size_append, Array.size_replicate, List.size_toArray]; omega
  · obtain ⟨j, h1, h2⟩ := slots0_lk args 0 t v hv
    have hj : j < args.length := by
      rcases Nat.lt_or_ge j args.length with h' | h'
      · exact h'
      · rw [List.getElem?_eq_none h'] at h2; cases h2
    rw [show t = j by omega, Array.getElem?_append_left (by simpa using hj)]
    simpa using h2
theorem enterS {f : FuncId} {fn : Func} {args : List Value} {w : World} {S : Nat → Prop} {R : Ending → World → Prop} (its : List Item) (ps : List (World → Prop)) (hO : Own its w S) (hp : ∀ p ∈ ps, Sta S w p) (hf : P.funcs[f]? = some fn) (hb : fn.body = some c) (hN : fn.ntmps = N)
    (h : Cj P N ⟨w, S⟩ c (bodyPost P fn R) (slots0 0 args) its ps) : Calls P f args.toArray w R := by
  refine calls_of_wp hf hb (h _ _ ⟨?_, rfl, fun t v hv => ?_⟩ (WS.startW hO hp))
  · simp only [Array.size_append, Array.size_replicate, List.size_toArray]; omega
  · obtain ⟨j, h1, h2⟩ := slots0_lk args 0 t v hv
    have hj : j < args.length := by
      rcases Nat.lt_or_ge j args.length with h' | h'
      · exact h'
      · rw [List.getElem?_eq_none h'] at h2; cases h2
    rw [show t = j by omega, Array.getElem?_append_left (by simpa using hj)]
    simpa using h2
theorem enterW {f : FuncId} {fn : Func} {args : List Value} {w : World} {R : Ending → World → Prop} (ps : List (World → Prop)) (hp : ∀ p ∈ ps, ∀ W, Below w.heap.size w W → p W) (hf : P.funcs[f]? = some fn) (hb : fn.body = some c) (hN : fn.ntmps = N)
    (h : Cj P N (base w) c (bodyPost P fn R) (slots0 0 args) [] ps) : Calls P f args.toArray w R :=
  enterS [] ps (fun k h => h) (fun p hp' W hm => hp p hp' W (hm.all (fun _ _ h => h))) hf hb hN h

/-! #### operations -/
theorem Jl.e {ι : Type} (val : ι → Value) (its' : ι → List Item) (ps' : ι → List (World → Prop)) (hw : wants ops L o = some true) (hd : o.dst = some d) (hN : Nat.blt d N = true)
    (h1 : ∀ a w, Fr N a L → WS B w its ps → ∃ i w', (execOp a.eval o).run P w = .ok (.value (val i)) w' ∧ (D.needs k = true → Below w.heap.size w w') ∧ WS B w' (its' i) (ps' i))
    (h : ∀ i, Jl P N B D (k + 1) ops Q rest ((d, val i) :: L) (its' i) (ps' i)) (hD : D.takes k = false := by rfl) : Jl P N B D k ops Q (o :: rest) L its ps := by
  refine ⟨?_⟩
  intro a w hf hW
  obtain ⟨i, w', hr, hb, hW'⟩ := h1 a w hf hW
  unfold runG
  rw [if_neg (by rw [hD]; simp), if_pos (hf.wants hw)]
  unfold Oper.wp
  rw [hr, Oper.upon_value, hd]
  exact ⟨hb, h i _ _ (hf.put hN _) hW'⟩
theorem Jl.un (its' : List Item) (hw : wants ops L o = some true) (hd : o.dst = none)
    (h1 : ∀ a w, Fr N a L → WS B w its ps → ∃ w', (execOp a.eval o).run P w = .ok .skip w' ∧ WS B w' its' ps)
    (h : Jl P N B D (k + 1) ops Q rest L its' ps) (hD : D.takes k = false := by rfl) (hE : D.needs k = false := by rfl) : Jl P N B D k ops Q (o :: rest) L its ps := by
  refine ⟨?_⟩
  intro a w hf hW
  obtain ⟨w', hr, hW'⟩ := h1 a w hf hW
  unfold runG
  rw [if_neg (by rw [hD]; simp), if_pos (hf.wants hw)]
  unfold Oper.wp
  rw [hr, Oper.upon_skip, hd]
  exact ⟨fun h' => (by rw [hE] at h'; cases h'), h _ _ (hf.put_none _) hW'⟩
/-- What yields and touches nothing. -/
theorem Jl.yd (hy : Yd P N B o v L its ps) (hw : wants ops L o = some true) (hd : o.dst = some d) (hN : Nat.blt d N = true) (h : Jl P N B D (k + 1) ops Q rest ((d, v) :: L) its ps) : Jl P N B D k ops Q (o :: rest) L its ps := by
  refine ⟨?_⟩
  intro a w hf hW
  unfold runG
  by_cases ht : D.takes k = true
  · rw [if_pos ht]
    refine ⟨v, .inl ⟨hf.wants hw, fun W hb => hy a W hf (hW.call hb)⟩, ?_⟩
    rw [hd]
    exact h _ _ (hf.put hN _) hW
  · rw [if_neg ht, if_pos (hf.wants hw)]
    unfold Oper.wp
    rw [hy a w hf hW, Oper.upon_value, hd]
    exact ⟨fun _ => Below.refl _ _, h _ _ (hf.put hN _) hW⟩
/-- Not carried out. -/
theorem Jl.off (hw : wants ops L o = some false) (hd : o.dst = some d) (hN : Nat.blt d N = true) (h : Jl P N B D (k + 1) ops Q rest ((d, undef) :: L) its ps) : Jl P N B D k ops Q (o :: rest) L its ps := by
  refine ⟨?_⟩
  intro a w hf hW
  unfold runG
  by_cases ht : D.takes k = true
  · rw [if_pos ht]
    refine ⟨undef, .inr ⟨hf.wants hw, rfl⟩, ?_⟩
    rw [hd]
    exact h _ _ (hf.put hN _) hW
  · rw [if_neg ht, if_neg (by rw [hf.wants hw]; simp), hd]
    exact h _ _ (hf.put hN _) hW
/-- A Bool in a slot: both cases. -/
theorem Jl.split (t : Nat) (hb : lk L t = some (.bool b)) (ht : b = true → Jl P N B D k ops Q rest ((t, .bool true) :: L) its ps) (hf : b = false → Jl P N B D k ops Q rest ((t, .bool false) :: L) its ps) : Jl P N B D k ops Q rest L its ps := by
  refine ⟨?_⟩
  intro a w hF hW
  cases hb' : b with
  | true => exact ht hb' a w ⟨hF.size, hF.defers, fun s u hs => by
      unfold lk at hs
      by_cases e : t = s
      · subst e
        rw [show Nat.beq t t = true by simp] at hs
        rw [hF.at_ t _ hb, hb']; simpa using hs
      · rw [beq_no e] at hs; exact hF.at_ s u hs⟩ hW
  | false => exact hf hb' a w ⟨hF.size, hF.defers, fun s u hs => by
      unfold lk at hs
      by_cases e : t = s
      · subst e
        rw [show Nat.beq t t = true by simp] at hs
        rw [hF.at_ t _ hb, hb']; simpa using hs
      · rw [beq_no e] at hs; exact hF.at_ s u hs⟩ hW
def gslot (ops : Array Oper) (o : Oper) : Option Nat := match o.guard with
  | none => none
  | some (j, _) => (ops[j]?).bind (·.dst)
/-- The guard of what comes next: both cases. -/
theorem Jl.splitG (hg : gslot ops o = some t) (hb : lk L t = some (.bool b)) (ht : b = true → Jl P N B D k ops Q (o :: rest) ((t, .bool true) :: L) its ps) (hf : b = false → Jl P N B D k ops Q (o :: rest) ((t, .bool false) :: L) its ps) : Jl P N B D k ops Q (o :: rest) L its ps := Jl.split t hb ht hf
/-- What stands in a slot, said otherwise. -/
theorem Jl.as (t : Nat) (v : Value) (hb : lk L t = some v2) (e : v2 = v) (h : Jl P N B D k ops Q rest ((t, v) :: L) its ps) : Jl P N B D k ops Q rest L its ps := by
  subst e
  refine ⟨?_⟩
  intro a w hF hW
  exact h a w ⟨hF.size, hF.defers, fun s x hs => by
      unfold lk at hs
      by_cases e : t = s
      · subst e
        rw [show Nat.beq t t = true by simp] at hs
        rw [hF.at_ t _ hb]; simpa using hs
      · rw [beq_no e] at hs; exact hF.at_ s x hs⟩ hW
def arOp : BinOp → Int → Int → Option Int
  | .add, p, q => some (p + q)
  | .sub, p, q => some (p - q)
  | .mul, p, q => some (p * q)
  | _, _, _ => none
def rlOp : BinOp → Int → Int → Option Prop
  | .eql, p, q => some (p = q)
  | .neq, p, q => some (p ≠ q)
  | .lss, p, q => some (p < q)
  | .leq, p, q => some (p ≤ q)
  | .gtr, p, q => some (p > q)
  | .geq, p, q => some (p ≥ q)
  | _, _, _ => none
def dcOp : BinOp → Int → Int → Option Bool
  | .eql, p, q => some (decide (p = q))
  | .neq, p, q => some (decide (p ≠ q))
  | .lss, p, q => some (decide (p < q))
  | .leq, p, q => some (decide (p ≤ q))
  | .gtr, p, q => some (decide (p > q))
  | .geq, p, q => some (decide (p ≥ q))
  | _, _, _ => none
def bbOp : BinOp → Bool → Bool → Option Bool
  | .eql, p, q => some (p == q)
  | .neq, p, q => some (p != q)
  | _, _, _ => none
namespace Y
variable {x y z : Operand}
theorem mv (hop : o.op = .move x) (hx : ev L x = some v) : Yd P N B o v L its ps := .mk <| fun a w hf _ => by
  unfold execOp; rw [hop]; simp [hf.ev hx]
theorem asg (hop : o.op = .assign x) (hx : ev L x = some v) : Yd P N B o v L its ps := .mk <| fun a w hf _ => by
  unfold execOp; rw [hop]; simp [hf.ev hx]
theorem pickT (hop : o.op = .pick x y z) (hx : ev L x = some (.bool true)) (hy : ev L y = some v) : Yd P N B o v L its ps := .mk <| fun a w hf _ => by
  unfold execOp; rw [hop]; simp [hf.ev hx, hf.ev hy, asBool]
theorem pickF (hop : o.op = .pick x y z) (hx : ev L x = some (.bool false)) (hz : ev L z = some v) : Yd P N B o v L its ps := .mk <| fun a w hf _ => by
  unfold execOp; rw [hop]; simp [hf.ev hx, hf.ev hz, asBool]
theorem ext {us : List Value} {i : Nat} (hop : o.op = .extract x i) (hx : ev L x = some (.tuple us.toArray)) (hv : us[i]? = some v) : Yd P N B o v L its ps := .mk <| fun a w hf _ => by
  unfold execOp; rw [hop]; simp [hf.ev hx, Instr.extract, hv]
/-- A binary operation on two numbers, or Bools, or texts: what it yields is told by its own run. -/
theorem bin {op : BinOp} {tx ty : TypeId} {p q : Value} (hop : o.op = .binOp op tx x y ty) (hx : ev L x = some p) (hy : ev L y = some q) (hr : ∀ w, (do eqGuard op tx x y p q; binOp op tx p q : Sem Value).run P w = .ok v w) : Yd P N B o v L its ps := .mk <| fun a w hf _ => by
  unfold execOp; rw [hop]; simp only [hf.ev hx, hf.ev hy]
  rw [Sem.run_bind, hr w]; rfl
theorem un {op : UnOp} {tx : TypeId} {p : Value} (hop : o.op = .unOp op tx x) (hx : ev L x = some p) (hr : ∀ w, (Op.unary op p).run P w = .ok v w) : Yd P N B o v L its ps := .mk <| fun a w hf _ => by
  unfold execOp; rw [hop]; simp only [hf.ev hx]
  rw [Sem.run_bind, hr w]; rfl
theorem cmp {op : BinOp} {tx ty : TypeId} {k : IntKind} {p q : Int} (hop : o.op = .binOp op tx x y ty) (hx : ev L x = some (.int k p)) (hy : ev L y = some (.int k q)) (hr : dcOp op p q = some b) : Yd P N B o (.bool b) L its ps := by
  refine bin hop hx hy (fun w => ?_)
  have e1 : (p == q) = decide (p = q) := by simp [BEq.beq]
  have e2 : (p != q) = decide (p ≠ q) := by simp [bne, e1]
  cases op <;> simp only [arOp, rlOp, dcOp, bbOp, Option.some.injEq, reduceCtorEq] at hr <;> subst hr <;> simp [eqGuard, binOp, Op.intCmp, e1, e2]
theorem cmpF {op : BinOp} {tx ty : TypeId} {k : IntKind} {p q : Int} {φ : Prop} (hop : o.op = .binOp op tx x y ty) (hx : ev L x = some (.int k p)) (hy : ev L y = some (.int k q)) (hr : rlOp op p q = some φ) (hn : ¬ φ) : Yd P N B o (.bool false) L its ps := by
  refine cmp (P := P) (N := N) (B := B) (its := its) (ps := ps) hop hx hy ?_
  cases op <;> simp only [arOp, rlOp, dcOp, bbOp, Option.some.injEq, reduceCtorEq] at hr ⊢ <;> subst hr <;> exact decide_eq_false hn
theorem cmpT {op : BinOp} {tx ty : TypeId} {k : IntKind} {p q : Int} {φ : Prop} (hop : o.op = .binOp op tx x y ty) (hx : ev L x = some (.int k p)) (hy : ev L y = some (.int k q)) (hr : rlOp op p q = some φ) (hn : φ) : Yd P N B o (.bool true) L its ps := by
  refine cmp (P := P) (N := N) (B := B) (its := its) (ps := ps) hop hx hy ?_
  cases op <;> simp only [arOp, rlOp, dcOp, bbOp, Option.some.injEq, reduceCtorEq] at hr ⊢ <;> subst hr <;> exact decide_eq_true hn
theorem cmpB {op : BinOp} {tx ty : TypeId} {p q : Bool} (ht : P.underlying tx = some .bool) (hop : o.op = .binOp op tx x y ty) (hx : ev L x = some (.bool p)) (hy : ev L y = some (.bool q)) (hr : bbOp op p q = some b) : Yd P N B o (.bool b) L its ps := by
  refine bin hop hx hy (fun w => ?_)
  have h1 := run_eql_bool (P := P) (w := w) tx p q ht
  have h2 := run_neq_bool (P := P) (w := w) tx p q ht
  cases op <;> simp only [arOp, rlOp, dcOp, bbOp, Option.some.injEq, reduceCtorEq] at hr <;> subst hr
  · rw [Sem.run_bind]; simp [eqGuard, h1]
  · rw [Sem.run_bind]; simp [eqGuard, h2]; cases p <;> cases q <;> rfl
theorem arith {op : BinOp} {tx ty : TypeId} {k : IntKind} {p q r : Int} (hop : o.op = .binOp op tx x y ty) (hx : ev L x = some (.int k p)) (hy : ev L y = some (.int k q)) (hr : arOp op p q = some r) : Yd P N B o (.int k (k.wrap r)) L its ps := by
  refine bin hop hx hy (fun w => ?_)
  cases op <;> simp only [arOp, rlOp, dcOp, bbOp, Option.some.injEq, reduceCtorEq] at hr <;> subst hr <;> simp [eqGuard, binOp, Op.intArith]
theorem neqB {tx ty : TypeId} {p : Bool} (hop : o.op = .binOp .neq tx x y ty) (hx : ev L x = some (.bool p)) (hy : ev L y = some (.bool p)) (ht : P.underlying tx = some .bool) : Yd P N B o (.bool false) L its ps :=
  cmpB ht hop hx hy (by simp [bbOp])
theorem arith64 {op : BinOp} {tx ty : TypeId} {p q r : Int} (hop : o.op = .binOp op tx x y ty) (hx : ev L x = some (.int .i64 p)) (hy : ev L y = some (.int .i64 q)) (hr : arOp op p q = some r) : Yd P N B o (.int .i64 (wrap64 r)) L its ps := by
  have := arith (P := P) (N := N) (B := B) (its := its) (ps := ps) hop hx hy hr
  rw [IntKind.wrap_i64] at this
  unfold wrap64
  exact this
/-- 64 bits, within bounds. -/
theorem arithN {op : BinOp} {tx ty : TypeId} {p q r : Int} (hop : o.op = .binOp op tx x y ty) (hx : ev L x = some (.int .i64 p)) (hy : ev L y = some (.int .i64 q)) (hr : arOp op p q = some r) (hb : -9223372036854775808 ≤ r ∧ r ≤ 9223372036854775807) : Yd P N B o (.int .i64 r) L its ps := by
  have := arith (P := P) (N := N) (B := B) (its := its) (ps := ps) hop hx hy hr
  rw [IntKind.wrap_i64] at this
  have e : (r + 9223372036854775808) % 18446744073709551616 - 9223372036854775808 = r := by omega
  rwa [e] at this
theorem not (hop : o.op = .unOp .not T x) (hx : ev L x = some (.bool b)) : Yd P N B o (.bool (!b)) L its ps := un hop hx (fun w => by simp [Op.unary])
theorem lenS {ts : Array TypeId} {A : Option Addr} {m c e : Nat} (ht : P.underlying T = some (.slice e)) (hop : o.op = .call { callee := .builtin .len, args := #[x], argTypes := ts }) (hts : ts[0]? = some T) (hx : ev L x = some (.slice A m c)) : Yd P N B o (.int .i64 m) L its ps := .mk <| fun a w hf _ => by
  unfold execOp; rw [hop]
  simp [resolve, invoke, builtin, Builtin.len_, hts, hf.ev hx, run_underlying ht, goInt]
end Y
end
end Go.Proofs.YtkglpfdoefdhdaaW.SL

namespace Go.Proofs.YtkglpfdoefdhdaaW.SL
open Go Go.RowKit Go.Proofs.YtkglpfdoefdhdaaW.PrintWords
set_option linter.unusedSimpArgs false
set_option linter.unusedVariables false

/-! #### what is asked of types -/
def aggT (P : Program) (T : TypeId) : Option Nat := match P.underlying T with
  | some (.struct _) => (P.info? T).map (·.size)
  | some (.array _ _) => (P.info? T).map (·.size)
  | _ => none
def scT (P : Program) (T : TypeId) : Bool := match P.underlying T with
  | some (.struct _) => false
  | some (.array _ _) => false
  | some _ => decide ((P.info? T).map (·.size) = some 1)
  | none => false
def zeroT (P : Program) (T : TypeId) : Option (List Value) := ((P.info? T).bind (·.zero)).map (·.cells.toList)
def fldT (P : Program) (S : TypeId) (f : Nat) : Option Nat := match P.underlying S with
  | some (.struct fs) => (fs[f]?).bind fun fl => (P.info? fl.type).bind fun i => if i.size = 0 then none else some fl.offset
  | _ => none
def elT (P : Program) (T : TypeId) : Option (TypeId × Nat) := match P.underlying T with
  | some (.slice e) => (P.info? e).map fun i => (e, i.size)
  | _ => none
/-! Facts on types and functions, in structures (two of them that do not fit are told apart at once). -/
structure AggT (P : Program) (T m : Nat) : Prop where mk :: (out : aggT P T = some m)
structure ScT (P : Program) (T : Nat) : Prop where mk :: (out : scT P T = true)
structure ZeroT (P : Program) (T : Nat) (zs : List Value) : Prop where mk :: (out : zeroT P T = some zs)
structure SzT (P : Program) (T m : Nat) : Prop where mk :: (out : (P.info? T).map (·.size) = some m)
structure FldT (P : Program) (S f off : Nat) : Prop where mk :: (out : fldT P S f = some off)
structure ElT (P : Program) (T e m : Nat) : Prop where mk :: (out : elT P T = some (e, m))
structure Ent (P : Program) (f : Nat) : Prop where mk :: (out : ∀ args w, (callFunc f args).run P w = .ok (.enter f args) w)
def allOne : List Value → Bool
  | [] => true
  | v :: r => v.oneCell' && allOne r
theorem allOne_mem : ∀ {us : List Value}, allOne us = true → ∀ u ∈ us, u.oneCell' = true
  | [], _, u, hu => by cases hu
  | v :: r, h, u, hu => by
    unfold allOne at h
    rw [Bool.and_eq_true] at h
    rcases List.mem_cons.1 hu with rfl | hu
    · exact h.1
    · exact allOne_mem h.2 u hu
/-- Item i of its is i' in its'. -/
inductive SetAt (i i' : Item) : List Item → List Item → Prop
  | z {r} : SetAt i i' (i :: r) (i' :: r)
  | s {j r r'} : SetAt i i' r r' → SetAt i i' (j :: r) (j :: r')
theorem SetAt.at {i i' : Item} : ∀ {its its' : List Item}, SetAt i i' its its' → ∃ n, its[n]? = some i ∧ its' = its.set n i'
  | _, _, .z => ⟨0, rfl, rfl⟩
  | _, _, .s h => by
    obtain ⟨n, h1, h2⟩ := SetAt.at h
    exact ⟨n + 1, by simpa using h1, by simp [h2]⟩
/-- Item i taken out of its. -/
inductive OutAt (i : Item) : List Item → List Item → Prop
  | z {r} : OutAt i (i :: r) r
  | s {j r r'} : OutAt i r r' → OutAt i (j :: r) (j :: r')
theorem OutAt.at {i : Item} : ∀ {its its' : List Item}, OutAt i its its' → ∃ n, its[n]? = some i ∧ its' = its.eraseIdx n
  | _, _, .z => ⟨0, rfl, rfl⟩
  | _, _, .s h => by
    obtain ⟨n, h1, h2⟩ := OutAt.at h
    exact ⟨n + 1, by simpa using h1, by simp [h2]⟩
/-- Cell n of cs is v in cs'. -/
inductive PutAt (v : Value) : Nat → List Value → List Value → Prop
  | z {u r} : PutAt v 0 (u :: r) (v :: r)
  | s {n u r r'} : PutAt v n r r' → PutAt v (n + 1) (u :: r) (u :: r')
theorem PutAt.wr {v : Value} : ∀ {n : Nat} {cs cs' : List Value}, PutAt v n cs cs' → n + 1 ≤ cs.length ∧ cs' = cs.take n ++ ([v] ++ cs.drop (n + 1))
  | _, _, _, .z => ⟨by simp, by simp⟩
  | _, _, _, .s h => by
    obtain ⟨h1, h2⟩ := PutAt.wr h
    exact ⟨by simp; omega, by simp [h2]⟩
/-- Cells written from off on. -/
def wr (cs : List Value) (off : Nat) (us : List Value) : List Value := cs.take off ++ (us ++ cs.drop (off + us.length))

section
variable {P : Program} {w : World}
theorem run_zeroT {T : TypeId} {zs : List Value} (h : zeroT P T = some zs) : ∃ z, (zeroValue T).run P w = .ok z w ∧ z.cells.toList = zs := by
  unfold zeroT at h
  cases hi : P.info? T with
  | none => simp [hi] at h
  | some i =>
    cases hz : i.zero with
    | none => simp [hi, hz] at h
    | some z =>
      simp only [hi, Option.bind_some, hz, Option.map_some, Option.some.injEq] at h
      exact ⟨z, by simp [zeroValue, typeInfo, hi, hz], h⟩
theorem aggT_run {T : TypeId} {m : Nat} (h : aggT P T = some m) : (isAgg T).run P w = .ok true w ∧ (sizeOf T).run P w = .ok m w := by
  unfold aggT at h
  cases hu : P.underlying T with
  | none => simp [hu] at h
  | some d =>
    have hs : (P.info? T).map (·.size) = some m ∧ ((match d with | .struct _ | .array _ _ => true | _ => false) = true) := by
      cases d <;> simp_all
    obtain ⟨i, hi, rfl⟩ := Option.map_eq_some_iff.1 hs.1
    refine ⟨?_, by simp [sizeOf, typeInfo, hi]⟩
    unfold isAgg
    rw [Sem.run_bind, run_underlying hu w]
    have := hs.2
    cases d <;> simp_all
theorem scT_run {T : TypeId} (h : scT P T = true) : (isAgg T).run P w = .ok false w ∧ (sizeOf T).run P w = .ok 1 w := by
  unfold scT at h
  cases hu : P.underlying T with
  | none => simp [hu] at h
  | some d =>
    have hs : (P.info? T).map (·.size) = some 1 ∧ ((match d with | .struct _ | .array _ _ => true | _ => false) = false) := by
      cases d <;> simp_all
    obtain ⟨i, hi, hi1⟩ := Option.map_eq_some_iff.1 hs.1
    refine ⟨?_, by simp [sizeOf, typeInfo, hi, hi1]⟩
    unfold isAgg
    rw [Sem.run_bind, run_underlying hu w]
    have := hs.2
    cases d <;> simp_all
theorem run_load_agg {T : TypeId} {ad : Addr} {us : List Value} (h : aggT P T = some us.length) (hc : Cells w ad us) : (Instr.loadAt T (.pointer (some ad))).run P w = .ok (.agg us.toArray) w := by
  obtain ⟨h1, h2⟩ := aggT_run (w := w) h
  have hl : (loadCells ad us.length).run P w = .ok us.toArray w := run_loadCells_list (P := P) w ad us hc
  simp [Instr.loadAt, Instr.sureAddr, loadVar, h1, h2, hl]
theorem run_load_one {T : TypeId} {ad : Addr} {u : Value} (h : scT P T = true) (hc : w.cell? ad = some u) : (Instr.loadAt T (.pointer (some ad))).run P w = .ok u w := by
  obtain ⟨h1, h2⟩ := scT_run (w := w) h
  simp [Instr.loadAt, Instr.sureAddr, loadVar, h1, load, Sem.run, hc]
theorem run_fieldAt {S f off : Nat} {ad : Addr} (h : fldT P S f = some off) : (Instr.fieldAt S (.pointer (some ad)) f).run P w = .ok (.pointer (some (ad.add off))) w := by
  unfold fldT at h
  cases hu : P.underlying S with
  | none => simp [hu] at h
  | some d =>
    cases d <;> simp only [hu, reduceCtorEq] at h
    rename_i fs
    obtain ⟨fl, hf, h⟩ := Option.bind_eq_some_iff.1 h
    obtain ⟨i, hi, h⟩ := Option.bind_eq_some_iff.1 h
    have h0 : i.size ≠ 0 := fun e => by simp [e] at h
    rw [if_neg h0] at h
    obtain rfl := Option.some.inj h
    simp [Instr.fieldAt, run_underlying hu, hf, Instr.sureAddr, fieldPlace, sizeOf, typeInfo, hi, h0]
theorem run_indexAt {T e size len c : Nat} {ad : Addr} {k : IntKind} {i : Int} (h : elT P T = some (e, size)) (h0 : 0 ≤ i) (h1 : i < (len : Int)) : (Instr.indexAt T (.slice (some ad) len c) (.int k i)).run P w = .ok (.pointer (some (ad.add (i.toNat * size)))) w := by
  unfold elT at h
  cases hu : P.underlying T with
  | none => simp [hu] at h
  | some d =>
    cases d <;> simp [hu] at h
    rename_i e'
    obtain ⟨j, hj, rfl, rfl⟩ := h
    simp [Instr.indexAt, run_underlying hu, asIntOf, h0, h1, sizeOf, typeInfo, hj]
theorem storeCells_run {g T : Nat} : ∀ (us : List Value) (i : Nat) (ad : Addr) (cs : List Value) (w : World), ad.block = g → ad.spot = none → w.heap[g]? = some (.cells cs.toArray T (0, 0)) → ad.off + i + us.length ≤ cs.length → (∀ u ∈ us, u.oneCell' = true) →
    ∃ w', (storeCells ad us i).run P w = .ok () w' ∧ w'.heap[g]? = some (.cells (wr cs (ad.off + i) us).toArray T (0, 0)) ∧ w'.os = w.os ∧ w'.tape = w.tape ∧ w'.output = w.output ∧ w'.heap.size = w.heap.size ∧ ∀ k, k ≠ g → w'.heap[k]? = w.heap[k]?
  | [], i, ad, cs, w, hb, hs, hg, hl, h1 => ⟨w, by simp [storeCells], by simpa [wr] using hg, rfl, rfl, rfl, rfl, fun _ _ => rfl⟩
  | u :: r, i, ad, cs, w, hb, hs, hg, hl, h1 => by
    have hlt : ad.off + i < cs.length := by simp at hl; omega
    have hadd : ad.add i = ⟨g, ad.off + i, none⟩ := by
      unfold Addr.add
      split
      · rename_i h0; subst h0; cases ad; simp_all
      · cases ad; simp_all
    have hcell : w.cell? ⟨g, ad.off + i, none⟩ = some cs[ad.off + i] := by simp [World.cell?, hg, hlt]
    have hfro : w.frozen? ⟨g, ad.off + i, none⟩ = false := by simp [World.frozen?, hg]
    have hst : (store (ad.add i) u).run P w = .ok () (w.setCell ⟨g, ad.off + i, none⟩ u) := by
      rw [hadd, run_store P w _ u _ (h1 u (by simp)), hcell]
      simp [hfro]
    have hg' := blk_set hg (ad.off + i) u
    have hg'' : (w.setCell ⟨g, ad.off + i, none⟩ u).heap[g]? = some (.cells (cs.set (ad.off + i) u).toArray T (0, 0)) := by rw [hg']; simp
    obtain ⟨w', e1, e2, e3, e4, e5, e6, e7⟩ := storeCells_run r (i + 1) ad (cs.set (ad.off + i) u) _ hb hs hg'' (by simp at hl ⊢; omega) (fun x hx => h1 x (by simp [hx]))
    refine ⟨w', by simp only [storeCells, Sem.run_bind, hst, Result.andThen_ok, e1], ?_, e3, e4, e5, by rw [e6]; simp, fun k hk => (e7 k hk).trans (Below.heap_setCell w ⟨g, ad.off + i, none⟩ u k hk)⟩
    rw [e2]
    congr 3
    unfold wr
    rw [show ad.off + (i + 1) = (ad.off + i) + 1 by omega]
    generalize ad.off + i = m at hlt
    apply List.ext_getElem?
    intro k
    simp only [List.getElem?_append, List.length_take, List.length_set, List.length_cons, List.getElem?_drop, List.getElem?_take, List.getElem?_set]
    by_cases hk : k < m
    · simp [show min m cs.length = m by omega, show min (m + 1) cs.length = m + 1 by omega, hk, show k < m + 1 by omega, show ¬ m = k by omega]
    · by_cases hk2 : k = m
      · subst hk2
        simp [show min k cs.length = k by omega, show min (k + 1) cs.length = k + 1 by omega, hlt]
      · have h3 : ¬ k < m + 1 := by omega
        simp only [show min m cs.length = m by omega, show min (m + 1) cs.length = m + 1 by omega, if_neg hk, if_neg h3]
        rw [show k - m = (k - (m + 1)) + 1 by omega]
        simp only [List.getElem?_cons_succ]
        by_cases h4 : k - (m + 1) < r.length
        · simp [h4]
        · simp [h4, Nat.add_assoc, Nat.add_comm 1, show ¬ m = m + 1 + r.length + (k - (m + 1) - r.length) by omega, show m + (r.length + 1) + (k - (m + 1) + 1 - (r.length + 1)) = m + 1 + r.length + (k - (m + 1) - r.length) by omega]
end

section
variable {P : Program} {N : Nat} {B : Base} {L L' : Sl} {its its' : List Item} {ps ps' : List (World → Prop)} {Q : Exit → Act → World → Prop} {D : Dm} {k : Nat} {ops : Array Oper} {rest : List Oper} {o : Oper} {d T n m : Nat} {v v2 : Value} {b : Bool} {x y z : Operand} {cs zs us : List Value} {g off T' : Nat} {ad : Addr}
theorem Box_at {w : World} (h : WS B w its ps) (hn : Item.box g T' cs ∈ its) : w.heap[g]? = some (.cells cs.toArray T' (0, 0)) := by
  obtain ⟨_, S, h2, _, _⟩ := h
  obtain ⟨n, hn⟩ := List.mem_iff_getElem?.1 hn
  obtain ⟨A, g1, _⟩ := h2.focus hn
  exact g1.1
theorem Box_cells {w : World} (h : w.heap[g]? = some (.cells cs.toArray T' (0, 0))) (off : Nat) : Cells w ⟨g, off, none⟩ (cs.drop off) := by
  intro j u hu
  have : (⟨g, off, none⟩ : Addr).add j = ⟨g, off + j, none⟩ := by unfold Addr.add; split <;> simp_all
  rw [this, blk_cell h]
  simpa using hu
namespace Y
theorem loadA (hop : o.op = .load T x) (hx : ev L x = some (.pointer (some ⟨g, 0, none⟩))) (hT : AggT P T m) (hn : Item.box g T' cs ∈ its) (hl : Nat.beq cs.length m = true) : Yd P N B o (.agg cs.toArray) L its ps := .mk <| fun a w hf hW => by
  obtain rfl := Nat.eq_of_beq_eq_true hl
  have hc := Box_cells (Box_at hW hn) 0
  simp only [List.drop_zero] at hc
  unfold execOp; rw [hop]; simp [hf.ev hx, run_load_agg hT.out hc]
theorem load1 (hop : o.op = .load T x) (hx : ev L x = some (.pointer (some ⟨g, off, none⟩))) (hT : ScT P T) (hn : Item.box g T' cs ∈ its) (hv : cs[off]? = some v) : Yd P N B o v L its ps := .mk <| fun a w hf hW => by
  have hc := blk_cell (Box_at hW hn) off
  unfold execOp; rw [hop]; simp [hf.ev hx, run_load_one hT.out (hc.trans (by simpa using hv))]
/-- Out of cells that a fact tells. -/
theorem loadF (hop : o.op = .load T x) (hx : ev L x = some (.pointer (some ad))) (hT : AggT P T m) (hp : (fun w => Cells w ad us) ∈ ps) (hl : Nat.beq us.length m = true) : Yd P N B o (.agg us.toArray) L its ps := .mk <| fun a w hf hW => by
  obtain rfl := Nat.eq_of_beq_eq_true hl
  unfold execOp; rw [hop]; simp [hf.ev hx, run_load_agg hT.out (hW.fact hp)]
theorem fld {S f : Nat} (hop : o.op = .fieldAddr S x f) (hx : ev L x = some (.pointer (some ad))) (hT : FldT P S f off) : Yd P N B o (.pointer (some (ad.add off))) L its ps := .mk <| fun a w hf hW => by
  unfold execOp; rw [hop]; simp [hf.ev hx, run_fieldAt hT.out]
/-- The same in a block of the call's own. -/
theorem fldB {S f m : Nat} (hop : o.op = .fieldAddr S x f) (hx : ev L x = some (.pointer (some ⟨g, m, none⟩))) (hT : FldT P S f off) : Yd P N B o (.pointer (some ⟨g, m + off, none⟩)) L its ps := by
  have h := fld (P := P) (N := N) (B := B) (its := its) (ps := ps) hop hx hT
  have : (⟨g, m, none⟩ : Addr).add off = ⟨g, m + off, none⟩ := by unfold Addr.add; split <;> simp_all
  rwa [this] at h
theorem fld0 {S f : Nat} (hop : o.op = .fieldAddr S x f) (hx : ev L x = some (.pointer (some ⟨g, 0, none⟩))) (hT : FldT P S f off) : Yd P N B o (.pointer (some ⟨g, off, none⟩)) L its ps := by
  have h := fldB (P := P) (N := N) (B := B) (its := its) (ps := ps) hop hx hT
  rwa [Nat.zero_add] at h
theorem idx {e size len c : Nat} {k : IntKind} {i : Int} (hop : o.op = .indexAddr T x y) (hx : ev L x = some (.slice (some ad) len c)) (hy : ev L y = some (.int k i)) (hT : ElT P T e size) (h0 : 0 ≤ i) (h1 : i < (len : Int)) : Yd P N B o (.pointer (some (ad.add (i.toNat * size)))) L its ps := .mk <| fun a w hf hW => by
  unfold execOp; rw [hop]; simp [hf.ev hx, hf.ev hy, run_indexAt hT.out h0 h1]
end Y
theorem WS.alloc {w : World} (h : WS B w its ps) (T : Nat) (cs : Array Value) : WS B (w.alloc (.cells cs T)) (.box w.heap.size T cs.toList :: its) ps :=
  h.new (below_alloc (Below.refl _ _) _) (A := fun k => k = w.heap.size) ⟨by simpa using heap_alloc_new w (.cells cs T), fun k => Iff.rfl⟩ (fun k hk => by rw [hk]; exact Nat.le_refl _)
theorem Jl.alloc (hw : wants ops L o = some true) (hop : o.op = .alloc T) (hd : o.dst = some d) (hN : Nat.blt d N = true) (hz : ZeroT P T zs)
    (h : ∀ g, Jl P N B D (k + 1) ops Q rest ((d, .pointer (some ⟨g, 0, none⟩)) :: L) (Item.box g T zs :: its) ps) (hD : D.takes k = false := by rfl) : Jl P N B D k ops Q (o :: rest) L its ps :=
  Jl.e (fun g : Nat => .pointer (some ⟨g, 0, none⟩)) (fun g => Item.box g T zs :: its) (fun _ => ps) hw hd hN (fun a w hf hW => by
    obtain ⟨z, h1, h2⟩ := run_zeroT (w := w) hz.out
    refine ⟨w.heap.size, w.alloc (.cells z.cells T), ?_, fun _ => below_alloc (Below.refl _ _) _, ?_⟩
    · unfold execOp; rw [hop]; simp [Instr.alloc, h1, newVar, newRow]
    · have := hW.alloc T z.cells
      rwa [h2] at this) h hD
theorem Jl.box (hw : wants ops L o = some true) (hop : o.op = .box T x) (hd : o.dst = some d) (hN : Nat.blt d N = true) (hx : ev L x = some v) (hz : v.cells.toList = zs)
    (h : ∀ g, Jl P N B D (k + 1) ops Q rest ((d, .pointer (some ⟨g, 0, none⟩)) :: L) (Item.box g T zs :: its) ps) (hD : D.takes k = false := by rfl) : Jl P N B D k ops Q (o :: rest) L its ps :=
  Jl.e (fun g : Nat => .pointer (some ⟨g, 0, none⟩)) (fun g => Item.box g T zs :: its) (fun _ => ps) hw hd hN (fun a w hf hW => by
    refine ⟨w.heap.size, w.alloc (.cells v.cells T), ?_, fun _ => below_alloc (Below.refl _ _) _, ?_⟩
    · unfold execOp; rw [hop]; simp [Instr.box, newVar, newRow, hf.ev hx]
    · have := hW.alloc T v.cells
      rwa [hz] at this) h hD
theorem store_run {o : Oper} {a : Act} {w : World} (hop : o.op = .store T x y) (hx : a.eval x = .pointer (some ⟨g, off, none⟩)) (hy : a.eval y = v) (hu : v.cells.toList = us) (hT : (P.info? T).map (·.size) = some us.length) (hg : w.heap[g]? = some (.cells cs.toArray T' (0, 0))) (hl : off + us.length ≤ cs.length) (h1 : ∀ u ∈ us, u.oneCell' = true) :
    ∃ w', (execOp a.eval o).run P w = .ok .skip w' ∧ w'.heap[g]? = some (.cells (wr cs off us).toArray T' (0, 0)) ∧ Aft (fun k => k = g) w w' := by
  obtain ⟨w', e1, e2, e3, e4, e5, e6, e7⟩ := storeCells_run (P := P) us 0 ⟨g, off, none⟩ cs w rfl rfl hg (by simpa using hl) h1
  refine ⟨w', ?_, e2, e3, e4, e5, by omega, fun k _ hk => e7 k hk⟩
  unfold execOp; rw [hop]
  obtain ⟨i, hi, hi2⟩ := Option.map_eq_some_iff.1 hT
  have hsz : v.cells.size = us.length := by rw [← hu]; simp
  simp only [hx, hy]
  simp [Instr.storeAt, Instr.sureAddr, storeVar, sizeOf, typeInfo, hi, hi2, hsz, hu, e1]
/-- A whole record is stored into its block. -/
theorem Jl.storeA (hw : wants ops L o = some true) (hop : o.op = .store T x y) (hd : o.dst = none) (hx : ev L x = some (.pointer (some ⟨g, 0, none⟩))) (hy : ev L y = some (.agg us.toArray)) (hT : SzT P T us.length) (hn : SetAt (.box g T' cs) (.box g T' us) its its') (hl : Nat.beq us.length cs.length = true) (h1 : allOne us = true)
    (h : Jl P N B D (k + 1) ops Q rest L its' ps) (hD : D.takes k = false := by rfl) (hE : D.needs k = false := by rfl) : Jl P N B D k ops Q (o :: rest) L its ps :=
  Jl.un its' hw hd (fun a w hf hW => by
    obtain ⟨n, hn0, rfl⟩ := hn.at
    have hg := Box_at hW (List.mem_of_getElem? hn0)
    obtain ⟨w', e1, e2, e3⟩ := store_run (P := P) (us := us) hop (hf.ev hx) (hf.ev hy) (by simp [Value.cells]) hT.out hg (by have := Nat.eq_of_beq_eq_true hl; omega) (allOne_mem h1)
    have e : wr cs 0 us = us := by unfold wr; simp [Nat.eq_of_beq_eq_true hl]
    rw [e] at e2
    exact ⟨w', e1, hW.upd hn0 (fun A hA hA0 => ⟨A, ⟨e2, hA.2⟩, fun k hk _ => hk, e3.os, e3.tape, e3.output, e3.size, fun k hk hn' => e3.block k hk (fun e => hn' ((hA.2 k).2 e))⟩)⟩) h hD hE
/-- A call by its contract. -/
theorem Jl.call {ι : Type} (I : ι → Prop) (val : ι → Value) (its' : ι → List Item) (ps' : ι → List (World → Prop)) {f : FuncId} {args : Array Operand} {ts : Array TypeId} {fi ca : Array Value} {vals : List Value} (hw : wants ops L o = some true) (hop : o.op = .call { callee := .value x, args := args, argTypes := ts }) (hd : o.dst = some d) (hN : Nat.blt d N = true)
    (hx : ev L x = some (.func (.func f) fi ca)) (he : Ent P f) (hargs : evs L args.toList = some vals)
    (hc : ∀ w, WS B w its ps → Calls P f (fi ++ vals.toArray ++ ca) w fun e w' => ∃ i, e = .returned (val i) ∧ I i ∧ WS B w' (its' i) (ps' i) ∧ (D.needs k = true → Below w.heap.size w w'))
    (h : ∀ i, I i → Jl P N B D (k + 1) ops Q rest ((d, val i) :: L) (its' i) (ps' i)) (hD : D.takes k = false := by rfl) : Jl P N B D k ops Q (o :: rest) L its ps := by
  refine ⟨?_⟩
  intro a w hf hW
  unfold runG
  rw [if_neg (by rw [hD]; simp), if_pos (hf.wants hw)]
  have hl := hf.evs hargs
  have ha : args.map a.eval = vals.toArray := by
    apply Array.toList_inj.1
    rw [Array.toList_map]; exact hl
  have hrun : (execOp a.eval o).run P w = .ok (.enter f (fi ++ vals.toArray ++ ca)) w := by
    unfold execOp; rw [hop]
    simp [resolve, hf.ev hx, Deferred.ofValue, invoke, ha, he.out]
  unfold Oper.wp
  rw [hrun, Oper.upon_enter]
  refine (hc w hW).mono ?_
  rintro e w' ⟨i, rfl, hi, hW', hb⟩
  refine ⟨hb, ?_⟩
  rw [hd]
  exact h i hi _ _ (hf.put hN _) hW'
/-- A call of a function by its name, that only makes; one answer. -/
theorem Jl.call1 {f : FuncId} {args : Array Operand} {ts : Array TypeId} {vals : List Value} (hw : wants ops L o = some true) (hop : o.op = .call { callee := .value (.func f), args := args, argTypes := ts }) (hd : o.dst = some d) (hN : Nat.blt d N = true)
    (he : Ent P f) (hargs : evs L args.toList = some vals)
    (hc : ∀ w, WS B w its ps → Calls P f vals.toArray w fun e w' => e = .returned v ∧ Below w.heap.size w w')
    (h : Jl P N B D (k + 1) ops Q rest ((d, v) :: L) its ps) (hD : D.takes k = false := by rfl) : Jl P N B D k ops Q (o :: rest) L its ps :=
  Jl.call (ι := Unit) (fun _ => True) (fun _ => v) (fun _ => its) (fun _ => ps) hw hop hd hN rfl he hargs (fun w hW => by
    simp only [Array.empty_append, Array.append_empty]
    exact (hc w hW).mono (fun e w' hh => ⟨(), hh.1, trivial, hW.call hh.2, fun _ => hh.2⟩)) (fun _ _ => h) hD
end
end Go.Proofs.YtkglpfdoefdhdaaW.SL

namespace Go.Proofs.YtkglpfdoefdhdaaW.SL
open Go Go.RowKit Go.Proofs.YtkglpfdoefdhdaaW.PrintWords
set_option linter.unusedSimpArgs false
set_option linter.unusedVariables false

section
variable {α : Type} {dk : Kd α} {e b : Nat} {B : Base} {w w' : World} {its its' : List Item} {ps ps' : List (World → Prop)} {xs : List α} {v : Value} {ok : Nat → Prop}
/-- A row that a call has made. -/
theorem WS.rowR (h : WS B w its ps) (hb : Below w.heap.size w w') (hr : dk.R e w' w.heap.size ok v xs) (hB : b ≤ w.heap.size) : WS B w' (.row dk e b v xs :: its) ps :=
  h.new hb (A := fun k => w.heap.size ≤ k ∧ k < w'.heap.size) ⟨Kd.R_lower (Kd.R_mono (Kd.R_bound hr) (fun k hk => ⟨hk.2.1, hk.2.2.1⟩)) hB, fun k hk => hk.2⟩ (fun k hk => hk.1)
theorem WS.rowC {A : Option Addr} {n c : Nat} (h : WS B w its ps) (hi : Item.row dk e b (.slice A n c) xs ∈ its) : dk.C w A xs.length xs := by
  obtain ⟨S, hS⟩ := h.item hi
  exact (Kd.R_reads' hS.1).2.2
theorem WS.rowCap {A : Option Addr} {n c : Nat} (h : WS B w its ps) (hi : Item.row dk e b (.slice A n c) xs ∈ its) : n = xs.length ∧ xs.length ≤ c := by
  obtain ⟨S, hS⟩ := h.item hi
  have := Kd.R_reads' hS.1
  omega
theorem Aft.of_kept {w0 : World} {S : Nat → Prop} (hk : Kept w w' S) (h0 : Below w0.heap.size w0 w) (h1 : Below w0.heap.size w0 w') : Aft S w w' := ⟨h1.os.trans h0.os.symm, h1.tape.trans h0.tape.symm, h1.output.trans h0.output.symm, hk.1, fun k hk' hn => hk.2 k hk' hn⟩
/-- A world without memory, ahead of w. -/
def bare (w : World) : World := { w with heap := #[] }
theorem bare_below (w : World) : Below (bare w).heap.size (bare w) w := ⟨rfl, rfl, rfl, by simp [bare], fun k hk => by simp [bare] at hk⟩
theorem bare_size (w : World) : (bare w).heap.size = 0 := by simp [bare]
end

section
variable {P : Program} {N : Nat} {B : Base} {L L' : Sl} {its its' : List Item} {ps ps' : List (World → Prop)} {Q : Exit → Act → World → Prop} {D : Dm} {k : Nat} {ops : Array Oper} {rest : List Oper} {o : Oper} {d T n m : Nat} {v v2 : Value} {x y z : Operand} {α β : Type} {dk : Kd α} {dl : Kd β} {e b : Nat}
/-- A call that hands back one row of its own (V: the whole answer around it). -/
theorem Jl.callR (b : Nat) (V : Value → Value) {xs : List α} {f : FuncId} {args : Array Operand} {ts : Array TypeId} {vals : List Value} (hw : wants ops L o = some true) (hop : o.op = .call { callee := .value (.func f), args := args, argTypes := ts }) (hd : o.dst = some d) (hN : Nat.blt d N = true)
    (he : Ent P f) (hargs : evs L args.toList = some vals)
    (hc : ∀ w, WS B w its ps → Calls P f vals.toArray w fun e' w' => ∃ v, e' = .returned (V v) ∧ dk.R e w' w.heap.size (fun _ => True) v xs ∧ Below w.heap.size w w')
    (h : ∀ A c, xs.length ≤ c → Jl P N B D (k + 1) ops Q rest ((d, V (.slice A xs.length c)) :: L) (.row dk e 0 (.slice A xs.length c) xs :: its) ps) (hD : D.takes k = false := by rfl) : Jl P N B D k ops Q (o :: rest) L its ps :=
  Jl.call (ι := Option Addr × Nat) (fun i => xs.length ≤ i.2) (fun i => V (.slice i.1 xs.length i.2)) (fun i => .row dk e 0 (.slice i.1 xs.length i.2) xs :: its) (fun _ => ps) hw hop hd hN rfl he hargs (fun w hW => by
    simp only [Array.empty_append, Array.append_empty]
    refine (hc w hW).mono ?_
    rintro e' w' ⟨v, rfl, hr, hb⟩
    obtain ⟨A, c, rfl, hl, _⟩ := Kd.R_reads hr
    exact ⟨(A, c), rfl, hl, hW.rowR hb hr (Nat.zero_le _), fun _ => hb⟩) (fun i hi => h i.1 i.2 hi) hD
/-- A call that writes what it is handed. -/
theorem Jl.callM (i i' : Item) {f : FuncId} {args : Array Operand} {ts : Array TypeId} {vals : List Value} (hw : wants ops L o = some true) (hop : o.op = .call { callee := .value (.func f), args := args, argTypes := ts }) (hd : o.dst = some d) (hN : Nat.blt d N = true)
    (he : Ent P f) (hargs : evs L args.toList = some vals) (hn : SetAt i i' its its')
    (hc : ∀ w A, WS B w its ps → i.p w A → Calls P f vals.toArray w fun e' w' => e' = .returned v ∧ ∃ A', i'.p w' A' ∧ (∀ k, A' k → k < w.heap.size → A k) ∧ Aft A w w')
    (h : Jl P N B D (k + 1) ops Q rest ((d, v) :: L) its' ps) (hD : D.takes k = false := by rfl) (hE : D.needs k = false := by rfl) : Jl P N B D k ops Q (o :: rest) L its ps := by
  obtain ⟨n, hn0, rfl⟩ := hn.at
  refine ⟨?_⟩
  intro a w hf hW
  obtain ⟨_, S, h2, h3, h4⟩ := id hW
  unfold runG
  rw [if_neg (by rw [hD]; simp), if_pos (hf.wants hw)]
  have hl := hf.evs hargs
  have ha : args.map a.eval = vals.toArray := by
    apply Array.toList_inj.1
    rw [Array.toList_map]; exact hl
  have hrun : (execOp a.eval o).run P w = .ok (.enter f vals.toArray) w := by
    unfold execOp; rw [hop]
    simp [resolve, Act.eval, Deferred.ofValue, invoke, ha, he.out]
  unfold Oper.wp
  rw [hrun, Oper.upon_enter]
  obtain ⟨A, g1, g2, g3⟩ := h2.focus hn0
  refine (hc w A hW g1).mono ?_
  rintro e' w' ⟨rfl, A', hA', hsub, haft⟩
  refine ⟨fun h' => (by rw [hE] at h'; cases h'), ?_⟩
  rw [hd]
  refine h _ _ (hf.put hN _) ⟨hW.aft.trans haft (fun k hk hlt => (h3 k (g2 k hk)).resolve_right (by omega)), _, g3 w' i' A' hA' haft.size (fun k hk => ?_) (fun k hs hn => haft.block k (h2.lt k hs) hn), ?_, fun p hp => (h4 p hp).step ⟨haft.os, haft.tape, haft.output, haft.size, fun k hk hn => haft.block k hk (fun ha => hn (g2 k ha))⟩ ?_⟩
  · by_cases hlt : k < w.heap.size
    · exact .inr (hsub k hk hlt)
    · exact .inl (fun hs => hlt (h2.lt k hs))
  · rintro k (hk | hk)
    · by_cases hlt : k < w.heap.size
      · exact h3 k (g2 k (hsub k hk hlt))
      · exact .inr (Nat.le_trans hW.size (by omega))
    · exact h3 k hk.1
  · rintro k (hk | hk) hlt
    · exact g2 k (hsub k hk hlt)
    · exact hk.1
end
section
variable {α β : Type} {dk : Kd α} {di : Kd β} {e ei b g m cap : Nat} {B : Base} {w w' : World} {its its' : List Item} {ps ps' : List (World → Prop)} {xs : List α} {ys ys' : List β} {v u : Value} {i : Int} {c : List Value} {x' : α}
/-- The element back in its row: it is x' now. -/
theorem WS.back {n : Nat} (h : WS B w (.row di ei b u ys' :: its) ps) (hn : its[n]? = some (.lent dk e b v xs i c u)) (hE : di.E = [])
    (hM : ∀ (w : World) ok, di.R ei w b ok u ys' → dk.M w b ok x' c) : WS B w (its.set n (.rowS dk e b v (xs.set i.toNat x'))) ps := by
  obtain ⟨q1, S, q2, q3, q4⟩ := h
  refine ⟨q1, S, q2.one hn (fun A1 A2 h1 h2 h3 => ?_), q3, q4⟩
  obtain ⟨ok, oki, g1, g2, g3, g4⟩ := h1
  obtain ⟨r1, r2⟩ := h2
  obtain ⟨_, f, hR⟩ := g1
  have hH : Kd.H dk e w b (fun k => (ok k ∧ ¬ oki k) ∨ some k = u.ownBlock) v xs i (fun k => some k = u.ownBlock) c :=
    ⟨fun k hk => .inr hk, f, Kd.R_mono hR (fun k hk => ⟨.inl hk, fun he => hk.2 (g2 k he.symm)⟩)⟩
  have hS := Kd.S_bound (Kd.H_back hH (hM w _ (Kd.R_tight hE r1)) (fun k hk => hk))
  refine ⟨Kd.S_mono hS (fun k hk => ?_), fun k hk => ?_⟩
  · rcases hk.1 with h | h
    · exact .inl ((g3 k).2 ⟨h, hk.2.2.1⟩)
    · exact .inr (r1.1 k h.symm)
  · rcases hk with h | h
    · exact ((g3 k).1 h).2
    · exact r2 k h
end
section
variable {P : Program} {N : Nat} {B : Base} {L L' : Sl} {its its' : List Item} {ps ps' : List (World → Prop)} {Q : Exit → Act → World → Prop} {D : Dm} {k : Nat} {ops : Array Oper} {rest : List Oper} {o : Oper} {d T n m off j g cap : Nat} {v v2 u rv : Value} {x y z : Operand} {α β : Type} {dk : Kd α} {e b : Nat} {xs : List α} {i : Int} {c c' : List Value}
namespace Y
/-- An index into a row that lies at the head of its block. -/
theorem idx0 {size len cc e' : Nat} {k : IntKind} {i : Int} (hop : o.op = .indexAddr T x y) (hx : ev L x = some (.slice (some ⟨g, 0, none⟩) len cc)) (hy : ev L y = some (.int k i)) (hT : ElT P T e' size) (h0 : 0 ≤ i) (h1 : i < (len : Int)) : Yd P N B o (.pointer (some ⟨g, i.toNat * size, none⟩)) L its ps := by
  have h := idx (P := P) (N := N) (B := B) (its := its) (ps := ps) hop hx hy hT h0 h1
  have e : (⟨g, 0, none⟩ : Addr).add (i.toNat * size) = ⟨g, i.toNat * size, none⟩ := by unfold Addr.add; split <;> simp_all
  rwa [e] at h
end Y
end
end Go.Proofs.YtkglpfdoefdhdaaW.SL

namespace Go.Proofs.YtkglpfdoefdhdaaW.SL
open Go Go.RowKit Go.Proofs.YtkglpfdoefdhdaaW.PrintWords Go.Proofs.YtkglpfdoefdhdaaW.PrintLast
set_option linter.unusedSimpArgs false
set_option linter.unusedVariables false

universe u
section
variable {P : Program} {ops : Array Oper} {Q : Exit → Act → World → Prop} {md : Region.Mode} {ds : List Nat}
/-- Whatever order is picked from here on, and nothing that was there is written, but by ds. -/
def wpAnyB (P : Program) (md : Region.Mode) (ops : Array Oper) (Q : Exit → Act → World → Prop) (ds : List Nat) : Nat → Array Bool → Act → World → Prop
  | 0, listed, a, w => Region.ready md ops listed = [] ∧ Q .normal a w
  | fuel + 1, listed, a, w =>
    (Region.ready md ops listed = [] → Q .normal a w) ∧
    ∀ i ∈ Region.ready md ops listed, wpOp P ops Q i (fun a' w' => (i ∉ ds → Below w.heap.size w w') ∧ wpAnyB P md ops Q ds fuel (listed.setIfInBounds i true) a' w') a w
theorem wpAny_of_B : ∀ (fuel : Nat) (listed : Array Bool) (a : Act) (w : World), wpAnyB P md ops Q ds fuel listed a w → wpAny P md ops Q fuel listed a w
  | 0, _, _, _, h => h
  | fuel + 1, _, _, _, h => ⟨h.1, fun i hi => wpOp_mono (fun a' w' h' => wpAny_of_B fuel _ a' w' h'.2) (h.2 i hi)⟩
theorem yieldsIf_mono {S S' : World → Prop} {o : Oper} {v : Value} {a : Act} (h : YieldsIf P ops S o v a) (hs : ∀ w, S' w → S w) : YieldsIf P ops S' o v a :=
  h.imp (fun ⟨h1, h2⟩ => ⟨h1, fun w hw => h2 w (hs w hw)⟩) id
theorem wpAnyB_first {i : Nat} {oi : Oper} {v : Value} (hi : ops[i]? = some oi) (hsel : ∀ (j : Nat) (o : Oper) cs b, ops[j]? = some o → o.op ≠ .select cs b)
    (hQ : ∀ c a w, Q (.panic c) (a.put oi.dst v) w → Q (.panic c) a w) (n : Nat) :
    ∀ (fuel : Nat) (listed : Array Bool) (a : Act) (w : World),
      (∀ j oj, ops[j]? = some oj → j ≠ i → listed.getD j true = false → (∀ e ∈ oj.after, Region.binds md e = true → e.on ≠ i) → oi.apart ops oj = true) →
      ListedClosed md ops listed → (∀ d ∈ ds, listed.getD d true = false → Region.reachB md ops i n d = true) →
      i ∈ Region.ready md ops listed → YieldsIf P ops (fun W => Below w.heap.size w W) oi v a →
      wpAnyB P md ops Q ds fuel (listed.setIfInBounds i true) (a.put oi.dst v) w → wpAnyB P md ops Q ds (fuel + 1) listed a w := by
  intro fuel
  induction fuel with
  | zero =>
    intro listed a w _ _ _ hr hy H
    refine ⟨fun h => (by rw [h] at hr; cases hr), fun j hj => ?_⟩
    by_cases hji : j = i
    · subst hji; exact hy.wpOp hi (Below.refl _ _) ⟨fun _ => Below.refl _ _, H⟩
    · have := ready_mono hj hji
      rw [H.1] at this
      cases this
  | succ fuel ih =>
    intro listed a w hfree hc hd hr hy H
    refine ⟨fun h => (by rw [h] at hr; cases hr), fun j hj => ?_⟩
    by_cases hji : j = i
    · subst hji; exact hy.wpOp hi (Below.refl _ _) ⟨fun _ => Below.refl _ _, H⟩
    · have h1 := H.2 j (ready_mono hj hji)
      obtain ⟨hjun, oj, hoj, hall⟩ := mem_ready.1 hj
      have hiun := (mem_ready.1 hr).1
      have hnot : ∀ e ∈ oj.after, Region.binds md e = true → e.on ≠ i := fun e he hb heq => by
        have h1 := hall e he hb
        rw [heq] at h1
        rcases Nat.lt_or_ge i listed.size with h' | h'
        · simp [h'] at hiun h1; rw [hiun] at h1; cases h1
        · simp [Array.getElem?_eq_none h'] at h1
      have hjd : j ∉ ds := fun hm => Region.reach_not_ready hc (hd j hm hjun) hiun hj
      have h2 := wpOp_putIf hoj (hfree j oj hoj hji hjun hnot) (fun cs b => hsel i oi cs b hi) (fun cs b => hsel j oj cs b hoj) hQ hy h1
      have hfree' : ∀ k ok, ops[k]? = some ok → k ≠ i → (listed.setIfInBounds j true).getD k true = false →
          (∀ e ∈ ok.after, Region.binds md e = true → e.on ≠ i) → oi.apart ops ok = true := fun k ok hk hki hun hno => by
        refine hfree k ok hk hki ?_ hno
        by_cases hjk : j = k
        · subst hjk; exact hjun
        · rw [getD_set_ne true hjk] at hun; exact hun
      have hd' : ∀ d ∈ ds, (listed.setIfInBounds j true).getD d true = false → Region.reachB md ops i n d = true := fun d hm hun => by
        refine hd d hm ?_
        by_cases hjk : j = d
        · subst hjk; exact hjun
        · rw [getD_set_ne true hjk] at hun; exact hun
      refine wpOp_mono (fun a' w' h3 => ⟨h3.2.1, ih (listed.setIfInBounds j true) a' w' hfree' (hc.set hj) hd' (ready_mono hr (Ne.symm hji)) (yieldsIf_mono h3.1 (fun W hW => (h3.2.1 hjd).trans (hW.mono (h3.2.1 hjd).size))) ?_⟩) h2
      rw [Array.setIfInBounds_comm _ _ hji]
      exact h3.2.2
/-- May the operations be walked in the order ord? -/
def ordOk (T : Bool × List (List Nat × List Nat)) (ds : List Nat) (D : Dm) : Nat → List Nat → List Bool → Bool
  | _, [], l => readyT T.2 l == []
  | k, i :: r, l => (if D.takes k = true then takeT T ds l (l.set i true) i else (readyT T.2 l == [i]) && (D.needs k || ds.contains i)) && ordOk T ds D (k + 1) r (l.set i true)
theorem wpAnyB_of_run {D : Dm} (hQ : ∀ c a d v w, Q (.panic c) (Act.put a d v) w → Q (.panic c) a w) : ∀ (ord : List Nat) (k : Nat) (l : Array Bool) (a : Act) (w : World), ordOk (rtab md ops) ds D k ord l.toList = true → runG P ops Q D k (ord.filterMap (fun i => ops[i]?)) a w → wpAnyB P md ops Q ds ord.length l a w
  | [], k, l, a, w, h, hr => by
    simp only [ordOk, beq_iff_eq] at h
    rw [← ready_eq] at h
    exact ⟨h, hr⟩
  | i :: r, k, l, a, w, h, hr => by
    simp only [ordOk, Bool.and_eq_true] at h
    obtain ⟨h1, h2⟩ := h
    have hset : l.toList.set i true = (l.setIfInBounds i true).toList := by rw [Array.toList_setIfInBounds]
    by_cases ht : D.takes k = true
    · rw [if_pos ht] at h1
      have h3 := take_of (l := l) (l' := l.setIfInBounds i true) rfl (by rw [← hset]; exact h1)
      simp only [takeB, Bool.and_eq_true, beq_iff_eq] at h3
      obtain ⟨⟨⟨⟨⟨g1, g2⟩, g3⟩, g4⟩, g5⟩, _⟩ := h3
      have g3' : i ∈ Region.ready md ops l := by simpa using g3
      obtain ⟨_, o, ho, _⟩ := mem_ready.1 g3'
      rw [List.filterMap_cons, ho] at hr
      dsimp only at hr
      unfold runG at hr
      rw [if_pos ht] at hr
      obtain ⟨v, hy, hr⟩ := hr
      exact wpAnyB_first ho (Region.noSelect_spec g1) (fun c a w => hQ c a _ _ w) ops.size _ l a w (Region.free_spec ho g2) (Region.closedB_spec g4)
        (fun d hm hun => by have := List.all_eq_true.1 g5 d hm; rw [hun] at this; simpa using this) g3' hy (wpAnyB_of_run hQ r (k + 1) _ _ w (by rw [← hset]; exact h2) hr)
    · rw [if_neg ht] at h1
      simp only [Bool.and_eq_true, beq_iff_eq, Bool.or_eq_true] at h1
      obtain ⟨h3, h4⟩ := h1
      rw [← ready_eq] at h3
      have g3' : i ∈ Region.ready md ops l := by rw [h3]; simp
      obtain ⟨_, o, ho, _⟩ := mem_ready.1 g3'
      rw [List.filterMap_cons, ho] at hr
      dsimp only at hr
      unfold runG at hr
      rw [if_neg ht] at hr
      refine ⟨fun h0 => (by rw [h0] at g3'; cases g3'), fun j hj => ?_⟩
      rw [h3] at hj
      obtain rfl : j = i := by simpa using hj
      unfold wpOp
      rw [ho]
      dsimp only
      have hds : j ∉ ds → D.needs k = true := fun hn => h4.resolve_right (fun h => hn (by simpa using h))
      by_cases hw : Region.wanted o (yielded ops a.tmps) = true
      · rw [if_pos hw] at hr ⊢
        exact .inl (Oper.wp_mono (fun a' w' h' => ⟨fun hn => h'.1 (hds hn), wpAnyB_of_run hQ r (k + 1) _ _ w' (by rw [← hset]; exact h2) h'.2⟩) hr)
      · rw [if_neg hw] at hr ⊢
        exact ⟨fun _ => Below.refl _ _, wpAnyB_of_run hQ r (k + 1) _ _ w (by rw [← hset]; exact h2) hr⟩
theorem memH {α : Type u} {x : α} {l : List α} : x ∈ x :: l := .head _
theorem memT {α : Type u} {x y : α} {l : List α} (h : x ∈ l) : x ∈ y :: l := .tail _ h
def elemN (n : Nat) : List Nat → Bool
  | [] => false
  | m :: r => Nat.beq m n || elemN n r
/-- tk: the places taken first; nd: the places that write. -/
def mkD (tk nd : List Nat) : Dm := ⟨fun k => elemN k tk, fun k => !elemN k nd⟩
def drawOk (ops : Array Oper) (ds : List Nat) (D : Dm) (ord : List Nat) : Bool := ordOk (rtab .any ops) ds D 0 ord (List.replicate ops.size false) && Nat.beq ord.length ops.size
end
section
variable {P : Program} {N : Nat} {B : Base} {L L' : Sl} {its its' : List Item} {ps ps' : List (World → Prop)} {Q : Exit → Act → World → Prop} {ops : Array Oper} {c : Code}
theorem Cj.regionD {id : Nat} (hc : c = .region id ops true) (D : Dm) (ds : List Nat) (ord : List Nat) (hm : P.follows .mixedOrders = true) (hok : drawOk ops ds D ord = true)
    (h : Jl P N B D 0 ops Q (ord.filterMap (fun i => ops[i]?)) L its ps) (hQ : ∀ c a d v w, Q (.panic c) (Act.put a d v) w → Q (.panic c) a w := by intro c a d v w h; cases d <;> exact h) : Cj P N B c Q L its ps := by
  subst hc
  refine ⟨?_⟩
  intro a w hf hw
  refine wp_region_any hm ?_
  have hb : Below w.heap.size w { w with drawn := w.drawn + 1 } := ⟨rfl, rfl, rfl, Nat.le_refl _, fun _ _ => rfl⟩
  simp only [drawOk, Bool.and_eq_true] at hok
  have := wpAnyB_of_run (md := .any) hQ ord 0 (Array.replicate ops.size false) a { w with drawn := w.drawn + 1 } (by simpa using hok.1) (h a _ hf (hw.call hb))
  rw [Nat.eq_of_beq_eq_true hok.2] at this
  exact wpAny_of_B _ _ _ _ this
end
section
variable {P : Program} {N : Nat} {B : Base} {L L' : Sl} {its its' : List Item} {ps ps' : List (World → Prop)} {Q : Exit → Act → World → Prop} {D : Dm} {k : Nat} {ops : Array Oper} {rest : List Oper} {o : Oper} {d : Nat} {v v0 : Value} {us vs : List Value}
/-- A call that writes what its first argument leads to. -/
theorem Jl.callMv (I I' : Value → Item) {f : FuncId} {args : Array Operand} {ts : Array TypeId} (hw : wants ops L o = some true) (hop : o.op = .call { callee := .value (.func f), args := args, argTypes := ts }) (hd : o.dst = some d) (hN : Nat.blt d N = true)
    (he : Ent P f) (hargs : evs L args.toList = some (v0 :: vs)) (hn : SetAt (I v0) (I' v0) its its')
    (hc : ∀ w A, WS B w its ps → (I v0).p w A → Calls P f (v0 :: vs).toArray w fun e' w' => e' = .returned v ∧ ∃ A', (I' v0).p w' A' ∧ (∀ k, A' k → k < w.heap.size → A k) ∧ Aft A w w')
    (h : Jl P N B D (k + 1) ops Q rest ((d, v) :: L) its' ps) (hD : D.takes k = false := by rfl) (hE : D.needs k = false := by rfl) : Jl P N B D k ops Q (o :: rest) L its ps :=
  Jl.callM (I v0) (I' v0) hw hop hd hN he hargs hn hc h hD hE
end
end Go.Proofs.YtkglpfdoefdhdaaW.SL

namespace Go.Proofs.YtkglpfdoefdhdaaW.SL
open Go Go.RowKit Go.Proofs.YtkglpfdoefdhdaaW.PrintWords
set_option linter.unusedSimpArgs false
set_option linter.unusedVariables false
theorem WS.end1 {w w' : World} {S : Nat → Prop} {i : Item} {ps : List (World → Prop)} (h : WS ⟨w, S⟩ w' [i] ps) : ∃ S', i.p w' S' ∧ (∀ k, S' k → k < w.heap.size → S k) ∧ Aft S w w' := by
  obtain ⟨h1, T, ⟨A, C, g1, g2, g3, _⟩, h3, _⟩ := h
  exact ⟨A, g1, fun k hk hlt => (h3 k ((g3 k).2 (.inl hk))).resolve_right (by show ¬ w.heap.size ≤ k; omega), h1⟩
theorem Own.single {i : Item} {w : World} {S : Nat → Prop} (h : i.p w S) : Own [i] w S := ⟨S, fun _ => False, h, fun _ h => h, fun k => by simp, fun _ _ h => h⟩
theorem row_form {α : Type} {dk : Kd α} {e b : Nat} {w : World} {S : Nat → Prop} {v : Value} {xs : List α} (hR : dk.R e w b S v xs) : (∃ c, v = .slice none 0 c ∧ xs = []) ∨ ∃ g c, v = .slice (some ⟨g, 0, none⟩) xs.length c := by
  obtain ⟨A, c, rfl, _, hC⟩ := Kd.R_reads hR
  cases A with
  | none =>
    left
    have : xs.length = 0 := by
      rcases Nat.eq_zero_or_pos xs.length with h0 | h0
      · exact h0
      · obtain ⟨ad, he, _⟩ := hC.2.2 h0
        cases he
    exact ⟨c, by rw [this], List.eq_nil_of_length_eq_zero this⟩
  | some ad =>
    obtain ⟨g, rfl⟩ := Kd.R_head hR
    exact .inr ⟨g, c, rfl⟩
/-- A printed contract of a function that writes one row. -/
theorem of_kept {α : Type} {dk : Kd α} {e : Nat} {P : Program} {f : FuncId} {args : Array Value} {w : World} {v r : Value} {xs xs' : List α} {A : Nat → Prop}
    (hA : (Item.row dk e 0 v xs).p w A)
    (hc : ∀ (P0 : Nat → Prop) (w0 : World), Below w0.heap.size w0 w → dk.R e w w0.heap.size P0 v xs → Calls P f args w fun e' w' => e' = .returned r ∧ dk.R e w' w0.heap.size (fun k => P0 k ∨ w.heap.size ≤ k) v xs' ∧ Below w0.heap.size w0 w' ∧ Kept w w' (fun k => P0 k)) :
    Calls P f args w fun e' w' => e' = .returned r ∧ ∃ A', (Item.row dk e 0 v xs').p w' A' ∧ (∀ k, A' k → k < w.heap.size → A k) ∧ Aft A w w' := by
  refine (hc A (bare w) (bare_below w) (by rw [bare_size]; exact hA.1)).mono ?_
  rintro e' w' ⟨rfl, h1, h2, h3⟩
  rw [bare_size] at h1
  refine ⟨rfl, fun k => (A k ∨ w.heap.size ≤ k) ∧ k < w'.heap.size, ⟨Kd.R_mono (Kd.R_bound h1) (fun k hk => ⟨hk.1, hk.2.2.1⟩), fun k hk => hk.2⟩, fun k hk hlt => hk.1.resolve_right (by omega), Aft.of_kept h3 (bare_below w) h2⟩
section
variable {P : Program} {N : Nat} {B : Base} {L : Sl} {its : List Item} {ps : List (World → Prop)} {Q : Exit → Act → World → Prop} {D : Dm} {k : Nat} {ops : Array Oper} {rest : List Oper} {o : Oper} {c : Code}
theorem gateO (h : Jl P N B D k ops Q (o :: rest) L its ps) : Jl P N B D k ops Q (o :: rest) L its ps := h
theorem gateE (h : Jl P N B D k ops Q [] L its ps) : Jl P N B D k ops Q [] L its ps := h
theorem gateC (h : Cj P N B c Q L its ps) : Cj P N B c Q L its ps := h
end
end Go.Proofs.YtkglpfdoefdhdaaW.SL

namespace Go.Proofs.YtkglpfdoefdhdaaW.SL
open Go Go.RowKit Go.Proofs.YtkglpfdoefdhdaaW.PrintWords
set_option linter.unusedSimpArgs false
set_option linter.unusedVariables false

/-- Element i's cells. -/
def rowOf (sz : Nat) (cs : List Value) (i : Nat) : List Value := (cs.drop (i * sz)).take sz
theorem rowOf_get {sz : Nat} {cs : List Value} {i k : Nat} (hk : k < sz) : (rowOf sz cs i)[k]? = cs[i * sz + k]? := by simp [rowOf, List.getElem?_take, hk]
theorem rowOf_ext {sz : Nat} {cs cs' : List Value} {i j : Nat} (h : ∀ k, k < sz → cs[i * sz + k]? = cs'[j * sz + k]?) : rowOf sz cs i = rowOf sz cs' j := by
  apply List.ext_getElem?
  intro k
  by_cases hk : k < sz
  · rw [rowOf_get hk, rowOf_get hk, h k hk]
  · simp [rowOf, List.getElem?_take, hk]
theorem wr_length {cs us : List Value} {off : Nat} (h : off + us.length ≤ cs.length) : (wr cs off us).length = cs.length := by
  unfold wr; simp; omega
theorem wr_get {cs us : List Value} {off j : Nat} (h : off + us.length ≤ cs.length) : (wr cs off us)[j]? = if j < off then cs[j]? else if j < off + us.length then us[j - off]? else cs[j]? := by
  unfold wr
  rw [List.getElem?_append, List.getElem?_append]
  simp only [List.length_take, show min off cs.length = off by omega]
  by_cases h1 : j < off
  · simp [h1, List.getElem?_take]
  · rw [if_neg h1, if_neg h1]
    by_cases h2 : j < off + us.length
    · rw [if_pos (by omega), if_pos h2]
    · rw [if_neg (by omega), if_neg h2, List.getElem?_drop]
      congr 1; omega
theorem rowOf_wr_eq {sz : Nat} {cs us : List Value} {i : Nat} (hu : us.length = sz) (h : i * sz + sz ≤ cs.length) : rowOf sz (wr cs (i * sz) us) i = us := by
  apply List.ext_getElem?
  intro k
  by_cases hk : k < sz
  · rw [rowOf_get hk, wr_get (by omega), if_neg (by omega), if_pos (by omega)]
    congr 1; omega
  · rw [List.getElem?_eq_none (by omega : us.length ≤ k)]
    simp [rowOf, List.getElem?_take, hk]
theorem mul_lt_step {i j sz : Nat} (h : i < j) : i * sz + sz ≤ j * sz := by
  have := Nat.mul_le_mul_right sz (show i + 1 ≤ j from h)
  rwa [Nat.add_mul, Nat.one_mul] at this
theorem rowOf_wr_lt {sz : Nat} {cs us : List Value} {i j : Nat} (h : i * sz + us.length ≤ cs.length) (hj : j < i) : rowOf sz (wr cs (i * sz) us) j = rowOf sz cs j :=
  rowOf_ext fun k hk => by
    have := mul_lt_step (sz := sz) hj
    rw [wr_get h, if_pos (by omega)]
theorem rowOf_wr_gt {sz : Nat} {cs us : List Value} {i j : Nat} (h : i * sz + us.length ≤ cs.length) (hu : us.length ≤ sz) (hj : i < j) : rowOf sz (wr cs (i * sz) us) j = rowOf sz cs j :=
  rowOf_ext fun k hk => by
    have := mul_lt_step (sz := sz) hj
    rw [wr_get h, if_neg (by omega), if_neg (by omega)]
/-- A row of bare cells, as its block. -/
theorem raw_box {sz e b g n cap : Nat} {w : World} {ok : Nat → Prop} {rows : List (List Value)} (h : (Kd.raw sz).R e w b ok (.slice (some ⟨g, 0, none⟩) n cap) rows) :
    ∃ cs : List Value, w.heap[g]? = some (.cells cs.toArray e (0, 0)) ∧ cs.length = cap * sz ∧ b ≤ g ∧ n = rows.length ∧ n ≤ cap ∧ cap ≤ maxLen ∧ (∀ j us, rows[j]? = some us → rowOf sz cs j = us ∧ us.length = sz ∧ ∀ u ∈ us, u.oneCell' = true) := by
  obtain ⟨h0, inner, ⟨hl, ho⟩, hr⟩ := h
  rw [show (Kd.raw sz).sz = sz from rfl] at hl hr ho
  rcases ho with ⟨hv, _⟩ | ⟨g', cap', cur, hv, hb, hh, h1, h2, h3, h4⟩
  · cases hv
  · injection hv with e1 e2 e3
    injection e1 with e1
    injection e1 with e1
    subst e1; subst e3
    refine ⟨cur.toList, by simpa using hh, by simpa using h3, hb, e2, by omega, h2, fun j us hj => ?_⟩
    obtain ⟨k1, k2, k3⟩ := hr.2 j us hj
    refine ⟨?_, ?_, ?_⟩
    · rw [← k1, ← h4]
      have hjl : j < rows.length := (List.getElem?_eq_some_iff.1 hj).1
      apply List.ext_getElem?
      intro k
      by_cases hk : k < sz
      · have := mul_lt_step (sz := sz) hjl
        rw [rowOf_get hk, List.getElem?_take, if_pos hk, List.getElem?_drop, List.getElem?_take, if_pos (by show j * sz + k < rows.length * sz; omega)]
      · simp [rowOf, List.getElem?_take, hk]
    · rw [← k1]; exact k2
    · rw [← k1]; exact k3
theorem box_raw {sz e b g cap m : Nat} {w : World} {ok : Nat → Prop} {cs : List Value} {rows : List (List Value)} (hh : w.heap[g]? = some (.cells cs.toArray e (0, 0))) (hl : cs.length = cap * sz) (hb : b ≤ g) (hm : rows.length = m) (hc : m ≤ cap) (hx : cap ≤ maxLen) (hok : ok g)
    (hr : ∀ j us, rows[j]? = some us → rowOf sz cs j = us ∧ us.length = sz ∧ ∀ u ∈ us, u.oneCell' = true) : (Kd.raw sz).R e w b ok (.slice (some ⟨g, 0, none⟩) m cap) rows := by
  subst hm
  have hmul := Nat.mul_le_mul_right sz hc
  refine ⟨fun k hk => ?_, cs.take (rows.length * sz), ⟨by rw [List.length_take]; show min (rows.length * sz) cs.length = rows.length * sz; omega, .inr ⟨g, cap, cs.toArray, rfl, hb, hh, hc, hx, by show cs.toArray.size = cap * sz; simpa using hl, by rfl⟩⟩, by rw [List.length_take]; show min (rows.length * sz) cs.length = rows.length * sz; omega, fun j us hj => ?_⟩
  · have : g = k := by simpa [Value.ownBlock] using hk
    rw [← this]; exact hok
  · obtain ⟨k1, k2, k3⟩ := hr j us hj
    have hjl : j < rows.length := (List.getElem?_eq_some_iff.1 hj).1
    have e1 : ((cs.take (rows.length * sz)).drop (j * sz)).take sz = us := by
      rw [← k1]
      apply List.ext_getElem?
      intro k
      by_cases hk : k < sz
      · have := mul_lt_step (sz := sz) hjl
        rw [rowOf_get hk, List.getElem?_take, if_pos hk, List.getElem?_drop, List.getElem?_take, if_pos (by omega)]
      · simp [rowOf, List.getElem?_take, hk]
    show ((cs.take (rows.length * sz)).drop (j * sz)).take sz = us ∧ (((cs.take (rows.length * sz)).drop (j * sz)).take sz).length = sz ∧ ∀ u ∈ ((cs.take (rows.length * sz)).drop (j * sz)).take sz, u.oneCell' = true
    rw [e1]
    exact ⟨rfl, k2, k3⟩
section
variable {P : Program} {N : Nat} {B : Base} {L L' : Sl} {its its' : List Item} {ps ps' : List (World → Prop)} {Q : Exit → Act → World → Prop} {D : Dm} {k : Nat} {ops : Array Oper} {rest : List Oper} {o : Oper} {d T T' n m off g cap len : Nat} {v v2 v0 : Value} {x y z : Operand} {cs us vs : List Value} {α : Type} {dk : Kd α} {e b : Nat}
namespace Y
end Y
/-- A call of a closure that only makes. -/
theorem Jl.callc {f : FuncId} {fi ca : Array Value} {args : Array Operand} {ts : Array TypeId} {vals : List Value} (hw : wants ops L o = some true) (hop : o.op = .call { callee := .value x, args := args, argTypes := ts }) (hd : o.dst = some d) (hN : Nat.blt d N = true)
    (hx : ev L x = some (.func (.func f) fi ca)) (he : Ent P f) (hargs : evs L args.toList = some vals)
    (hc : ∀ w, WS B w its ps → Calls P f (fi ++ vals.toArray ++ ca) w fun e w' => e = .returned v ∧ Below w.heap.size w w')
    (h : Jl P N B D (k + 1) ops Q rest ((d, v) :: L) its ps) (hD : D.takes k = false := by rfl) : Jl P N B D k ops Q (o :: rest) L its ps :=
  Jl.call (ι := Unit) (fun _ => True) (fun _ => v) (fun _ => its) (fun _ => ps) hw hop hd hN hx he hargs (fun w hW => by
    exact (hc w hW).mono (fun e w' hh => ⟨(), hh.1, trivial, hW.call hh.2, fun _ => hh.2⟩)) (fun _ _ => h) hD
/-- Beside item n, whatever is written in it. -/
theorem WS.beside {w : World} (h : WS B w its ps) {n : Nat} {i : Item} (hn : its[n]? = some i) : ∃ A, i.p w A ∧ (∀ W, Aft A w W → WS B W (its.eraseIdx n) ps) ∧
    ∀ (w' : World) (i' : Item) (A' : Nat → Prop), i'.p w' A' → (∀ k, A' k → k < w.heap.size → A k) → Aft A w w' → WS B w' (i' :: its.eraseIdx n) ps := by
  obtain ⟨h1, S, h2, h3, h4⟩ := h
  obtain ⟨A, C, g0, g1, g2, g3⟩ := h2.out hn
  have hAS : ∀ k, A k → S k := fun k hk => (g2 k).2 (.inl hk)
  have wk : ∀ W, Aft A w W → Aft S w W := fun W ha => ⟨ha.os, ha.tape, ha.output, ha.size, fun k hk hn => ha.block k hk (fun h' => hn (hAS k h'))⟩
  have wB : ∀ W, Aft A w W → Aft B.S B.w W := fun W ha => h1.trans ha (fun k hk hlt => (h3 k (hAS k hk)).resolve_right (by omega))
  have gl : ∀ W, Aft A w W → Own (its.eraseIdx n) W C := fun W ha => g1.loc ha.size (fun k hk => ha.block k (g1.lt k hk) (fun h' => g3 k h' hk))
  refine ⟨A, g0, fun W ha => ⟨wB W ha, C, gl W ha, fun k hk => h3 k ((g2 k).2 (.inr hk)), fun p hp => (h4 p hp).step (wk W ha) (fun k hk _ => (g2 k).2 (.inr hk))⟩, fun w' i' A' hi' hsub ha => ?_⟩
  refine ⟨wB w' ha, fun k => A' k ∨ C k, ⟨A', C, hi', gl w' ha, fun k => Iff.rfl, fun k hk hc => ?_⟩, ?_, fun p hp => (h4 p hp).step (wk w' ha) ?_⟩
  · exact g3 k (hsub k hk (g1.lt k hc)) hc
  · rintro k (hk | hk)
    · by_cases hlt : k < w.heap.size
      · exact h3 k (hAS k (hsub k hk hlt))
      · exact .inr (Nat.le_trans h1.size (by omega))
    · exact h3 k ((g2 k).2 (.inr hk))
  · rintro k (hk | hk) hlt
    · exact hAS k (hsub k hk hlt)
    · exact (g2 k).2 (.inr hk)
/-- A call that writes item i, with what is known beside it. -/
theorem Jl.callX {ι : Type} (I : ι → Prop) (val : ι → Value) (i : Item) (i' : ι → Item) {its0 : List Item} {f : FuncId} {args : Array Operand} {ts : Array TypeId} {vals : List Value} (hw : wants ops L o = some true) (hop : o.op = .call { callee := .value (.func f), args := args, argTypes := ts }) (hd : o.dst = some d) (hN : Nat.blt d N = true)
    (he : Ent P f) (hargs : evs L args.toList = some vals) (hn : OutAt i its its0)
    (hc : ∀ w A, i.p w A → (∀ W, Aft A w W → WS B W its0 ps) → Calls P f vals.toArray w fun e' w' => ∃ j, I j ∧ e' = .returned (val j) ∧ ∃ A', (i' j).p w' A' ∧ (∀ k, A' k → k < w.heap.size → A k) ∧ Aft A w w')
    (h : ∀ j, I j → Jl P N B D (k + 1) ops Q rest ((d, val j) :: L) (i' j :: its0) ps) (hD : D.takes k = false := by rfl) (hE : D.needs k = false := by rfl) : Jl P N B D k ops Q (o :: rest) L its ps := by
  obtain ⟨n, hn0, rfl⟩ := hn.at
  refine ⟨?_⟩
  intro a w hf hW
  unfold runG
  rw [if_neg (by rw [hD]; simp), if_pos (hf.wants hw)]
  have hl := hf.evs hargs
  have ha : args.map a.eval = vals.toArray := by
    apply Array.toList_inj.1
    rw [Array.toList_map]; exact hl
  have hrun : (execOp a.eval o).run P w = .ok (.enter f vals.toArray) w := by
    unfold execOp; rw [hop]
    simp [resolve, Act.eval, Deferred.ofValue, invoke, ha, he.out]
  unfold Oper.wp
  rw [hrun, Oper.upon_enter]
  obtain ⟨A, g1, g2, g3⟩ := hW.beside hn0
  refine (hc w A g1 g2).mono ?_
  rintro e' w' ⟨j, hI, rfl, A', hA', hsub, haft⟩
  refine ⟨fun h' => (by rw [hE] at h'; cases h'), ?_⟩
  rw [hd]
  exact h j hI _ _ (hf.put hN _) (g3 w' (i' j) A' hA' hsub haft)
end
end Go.Proofs.YtkglpfdoefdhdaaW.SL

namespace Go.Proofs.YtkglpfdoefdhdaaW.SL
open Go Go.RowKit Go.Proofs.YtkglpfdoefdhdaaW.PrintWords
set_option linter.unusedSimpArgs false
set_option linter.unusedVariables false
/-- What append asks of an element type: its zero value, size and bytes. -/
structure ApT (P : Program) (T e size bytes : Nat) : Prop where
  und : P.underlying T = some (.slice e)
  inf : ∃ i z, P.info? e = some i ∧ i.zero = some z ∧ i.size = size ∧ i.bytes = bytes ∧ z.cells.size = size
  pos : 0 < size
theorem apT_of {P : Program} {T e size bytes : Nat} {z : Value} (hu : P.underlying T = some (.slice e)) (hi : (P.info? e).map (fun i => (i.zero, i.size, i.bytes)) = some (some z, size, bytes)) (hz : z.cells.size = size) (h0 : 0 < size) : ApT P T e size bytes := by
  obtain ⟨i, h1, h2⟩ := Option.map_eq_some_iff.1 hi
  simp only [Prod.mk.injEq] at h2
  exact ⟨hu, ⟨i, z, h1, h2.1, h2.2.1, h2.2.2, hz⟩, h0⟩
theorem WS.swap {B : Base} {w : World} {i j : Item} {its : List Item} {ps : List (World → Prop)} (h : WS B w (i :: j :: its) ps) : WS B w (j :: i :: its) ps :=
  h.recut (fun S hS => by
    obtain ⟨A, C, h1, ⟨A2, C2, g1, g2, g3, g4⟩, h3, h4⟩ := hS
    refine ⟨A2, fun k => A k ∨ C2 k, g1, ⟨A, C2, h1, g2, fun _ => Iff.rfl, fun k hk hc => h4 k hk ((g3 k).2 (.inr hc))⟩, fun k => ?_, fun k hk hc => ?_⟩
    · rw [h3 k, g3 k]
      constructor
      · rintro (h | h | h)
        · exact .inr (.inl h)
        · exact .inl h
        · exact .inr (.inr h)
      · rintro (h | h | h)
        · exact .inr (.inl h)
        · exact .inl h
        · exact .inr (.inr h)
    · rcases hc with hc | hc
      · exact h4 k hc ((g3 k).2 (.inl hk))
      · exact g4 k hk hc)
theorem map_range0 (f : Nat → Value) : Array.map f (Array.range 0) = #[] := by apply Array.toList_inj.1; rw [Array.toList_map, Array.toList_range]; rfl
theorem map_range1 (f : Nat → Value) : Array.map f (Array.range 1) = #[f 0] := by apply Array.toList_inj.1; rw [Array.toList_map, Array.toList_range]; rfl
section
variable {P : Program} {N : Nat} {B : Base} {L L' : Sl} {its its' : List Item} {ps ps' : List (World → Prop)} {Q : Exit → Act → World → Prop} {D : Dm} {k : Nat} {ops : Array Oper} {rest : List Oper} {o : Oper} {d T n m gx e bytes : Nat} {v v2 : Value} {x y z : Operand} {cs us : List Value} {α : Type} {dk : Kd α} {xs : List α}
/-- x = append(x, one element). -/
theorem Jl.app (p : α) (okp : Nat → Prop) (hw : wants ops L o = some true) (hop : o.op = .call { callee := .builtin .append, args := #[x, y], argTypes := #[T, T] }) (hd : o.dst = some d) (hN : Nat.blt d N = true) (hx : ev L x = some v) (hy : ev L y = some (.slice (some ⟨gx, 0, none⟩) 1 1))
    (hT : ApT P T e dk.sz bytes) (hb : Item.box gx e us ∈ its) (hul : us.length = dk.sz) (hM : ∀ w : World, dk.M w 0 (fun _ => False) p us) (hone : ∀ u ∈ us, u.oneCell' = true)
    (hn : OutAt (.row dk e 0 v xs) its its') (hl : (xs.length + 1) * bytes ≤ 140737488355328) (hl2 : xs.length + 1 ≤ 9223372036854775807)
    (h : ∀ A c, xs.length + 1 ≤ c → Jl P N B D (k + 1) ops Q rest ((d, .slice A (xs ++ [p]).length c) :: L) (.row dk e 0 (.slice A (xs ++ [p]).length c) (xs ++ [p]) :: its') ps) (hD : D.takes k = false := by rfl) (hEE : D.needs k = false := by rfl) : Jl P N B D k ops Q (o :: rest) L its ps := by
  obtain ⟨n, hn0, rfl⟩ := hn.at
  refine ⟨?_⟩
  intro a w hf hW
  have hbx := Box_at hW hb
  obtain ⟨i, zz, i1, i2, i3, i4, i5⟩ := hT.inf
  obtain ⟨A, g1, g2, g3⟩ := hW.beside hn0
  obtain ⟨r1, r2⟩ := g1
  obtain ⟨q0, inner, hown, hr⟩ := Kd.R_mono r1 (ok' := fun k => A k ∨ w.heap.size ≤ k) (fun k hk => .inl hk)
  obtain ⟨v', w', e1, e2, e3, _, e4⟩ := run_append_own_at (P := P) (w := w) 0 T o.type e i zz dk.sz bytes hT.und i1 i2 i3 i4 i5 hT.pos v xs.length inner hown ⟨gx, 0, none⟩ 1 1 us (by rw [hul, Nat.one_mul]) (fun j u hu => by
    have := Box_cells hbx 0 j u (by simpa using hu)
    simpa using this) hone (by simp only [maxLen]; omega) hl (Nat.zero_le _)
  have hR := Kd.R_appended q0 hr (hM w) (fun k hk => hk.elim) (fun k hk => .inr hk) e2 e3 (e4.imp id (fun h => ⟨_, h, Nat.le_refl _⟩))
  obtain ⟨A', c', rfl, hc', _⟩ := Kd.R_reads hR
  rw [List.length_append, List.length_singleton] at hc'
  have hAown : ∀ k, v.ownBlock = some k → A k := r1.1
  have haft : Aft A w w' := ⟨e3.os, e3.tape, e3.output, e3.size, fun k hk hnA => e3.block k hk (fun e => hnA (hAown k e.symm))⟩
  unfold runG
  rw [if_neg (by rw [hD]; simp), if_pos (hf.wants hw)]
  have hrun : (execOp a.eval o).run P w = .ok (.value (.slice A' (xs ++ [p]).length c')) w' := by
    unfold execOp; rw [hop]
    simp only [List.length_append, List.length_singleton] at e1 ⊢
    simp [resolve, invoke, builtin, hf.ev hx, hf.ev hy, e1]
  unfold Oper.wp
  rw [hrun, Oper.upon_value, hd]
  refine ⟨fun h' => (by rw [hEE] at h'; cases h'), ?_⟩
  exact h A' c' hc' _ _ (hf.put hN _) (g3 w' _ (fun k => (A k ∨ w.heap.size ≤ k) ∧ k < w'.heap.size) ⟨Kd.R_mono (Kd.R_bound hR) (fun k hk => ⟨hk.1, hk.2.2.1⟩), fun k hk => hk.2⟩ (fun k hk hlt => hk.1.resolve_right (by omega)) haft)
/-- A literal without elements. -/
theorem Jl.lit0 (dk : Kd α) {sz : Nat} (hw : wants ops L o = some true) (hop : o.op = .buildSlice T 0 #[]) (hd : o.dst = some d) (hN : Nat.blt d N = true) (hT : ElT P T e sz)
    (h : ∀ g, Jl P N B D (k + 1) ops Q rest ((d, .slice (some ⟨g, 0, none⟩) ([] : List α).length 0) :: L) (.row dk e 0 (.slice (some ⟨g, 0, none⟩) ([] : List α).length 0) ([] : List α) :: its) ps) (hD : D.takes k = false := by rfl) : Jl P N B D k ops Q (o :: rest) L its ps :=
  Jl.e (fun g : Nat => .slice (some ⟨g, 0, none⟩) ([] : List α).length 0) (fun g => .row dk e 0 (.slice (some ⟨g, 0, none⟩) ([] : List α).length 0) ([] : List α) :: its) (fun _ => ps) hw hd hN (fun a w hf hW => by
    have hTo := hT.out
    unfold elT at hTo
    cases hu : P.underlying T with
    | none => simp [hu] at hTo
    | some dd =>
      cases dd <;> simp [hu] at hTo
      rename_i e2
      obtain ⟨j, hj, rfl, rfl⟩ := hTo
      have hb : Below w.heap.size w (w.alloc (.cells #[] e2)) := below_alloc (Below.refl _ _) _
      refine ⟨w.heap.size, w.alloc (.cells #[] e2), ?_, fun _ => hb, hW.new hb (A := fun k => k = w.heap.size) ⟨⟨fun k hk => ?_, [], ⟨by simp, .inr ⟨w.heap.size, 0, #[], rfl, Nat.zero_le _, heap_alloc_new w _, Nat.le_refl _, Nat.zero_le _, by simp, by simp⟩⟩, Reps.none _ _⟩, fun k hk => by rw [hk]; simp⟩ (fun k hk => by rw [hk]; exact Nat.le_refl _)⟩
      · unfold execOp; rw [hop]
        simp [Instr.buildSlice, run_underlying hu, sizeOf, typeInfo, hj, Instr.fill, newRow, map_range0]
      · have : w.heap.size = k := by simpa [Value.ownBlock] using hk
        exact this.symm) h hD
/-- A literal of one element of one cell. -/
theorem Jl.lit1 {u z0 : Value} (hw : wants ops L o = some true) (hop : o.op = .buildSlice T 1 #[(0, x)]) (hd : o.dst = some d) (hN : Nat.blt d N = true) (hx : ev L x = some u) (hT : ElT P T e 1) (hz : ZeroT P e [z0]) (hu1 : u.oneCell' = true)
    (h : ∀ g, Jl P N B D (k + 1) ops Q rest ((d, .slice (some ⟨g, 0, none⟩) 1 1) :: L) (.box g e [u] :: its) ps) (hD : D.takes k = false := by rfl) : Jl P N B D k ops Q (o :: rest) L its ps :=
  Jl.e (fun g : Nat => .slice (some ⟨g, 0, none⟩) 1 1) (fun g => .box g e [u] :: its) (fun _ => ps) hw hd hN (fun a w hf hW => by
    have hTo := hT.out
    unfold elT at hTo
    obtain ⟨z, hz1, hz2⟩ := run_zeroT (w := w) hz.out
    have hzc : z.cells = #[z0] := by apply Array.toList_inj.1; rw [hz2]
    have huc : u.cells = #[u] := by cases u <;> first | rfl | cases hu1
    cases hu : P.underlying T with
    | none => simp [hu] at hTo
    | some dd =>
      cases dd <;> simp [hu] at hTo
      rename_i e2
      obtain ⟨j, hj, rfl, hj1⟩ := hTo
      refine ⟨w.heap.size, w.alloc (.cells #[u] e2), ?_, fun _ => below_alloc (Below.refl _ _) _, hW.alloc e2 #[u]⟩
      unfold execOp; rw [hop]
      simp [Instr.buildSlice, run_underlying hu, sizeOf, typeInfo, hj, hj1, hz1, hzc, Instr.fill, newRow, hf.ev hx, huc, map_range1]) h hD
end
end Go.Proofs.YtkglpfdoefdhdaaW.SL

namespace Go.Proofs.YtkglpfdoefdhdaaW.SL
open Go Go.RowKit Go.Proofs.YtkglpfdoefdhdaaW.PrintWords
set_option linter.unusedSimpArgs false
set_option linter.unusedVariables false
section
variable {P : Program} {N : Nat} {B : Base} {L : Sl} {its : List Item} {ps : List (World → Prop)} {o : Oper} {T n m : Nat} {x : Operand} {ad ad' : Addr} {rows : List (List Value)} {us : List Value} {u : Value}
namespace Y
end Y
end
/-! #### items in another order, some left out -/
inductive Pick : List Item → List Item → Prop
  | nil {its} : Pick its []
  | cons {i : Item} {its r q} : OutAt i its r → Pick r q → Pick its (i :: q)
theorem Own.pick : ∀ {its its' : List Item} {w : World} {S : Nat → Prop}, Pick its its' → Own its w S → ∃ S', Own its' w S' ∧ ∀ k, S' k → S k
  | _, _, _, _, .nil, _ => ⟨fun _ => False, fun _ h => h, fun _ h => h.elim⟩
  | _, _, _, _, .cons ho hp, h => by
    obtain ⟨n, hn, rfl⟩ := ho.at
    obtain ⟨A, B, g1, g2, g3, g4⟩ := h.out hn
    obtain ⟨S', h1, h2⟩ := Own.pick hp g2
    exact ⟨fun k => A k ∨ S' k, ⟨A, S', g1, h1, fun _ => Iff.rfl, fun k ha hs => g4 k ha (h2 k hs)⟩, fun k hk => (g3 k).2 (hk.imp id (h2 k))⟩
theorem WS.pick {B : Base} {w : World} {its its' : List Item} {ps : List (World → Prop)} (hp : Pick its its') (h : WS B w its ps) : WS B w its' ps := by
  obtain ⟨h1, S, h2, h3, h4⟩ := h
  obtain ⟨S', g1, g2⟩ := Own.pick hp h2
  exact ⟨h1, S', g1, fun k hk => h3 k (g2 k hk), fun p hp => (h4 p hp).step (Aft.refl S w) (fun k hk _ => g2 k hk)⟩
section
variable {P : Program} {N : Nat} {B : Base} {L L' : Sl} {its its' : List Item} {ps ps' : List (World → Prop)} {Q : Exit → Act → World → Prop} {c c1 c2 : Code}
theorem Ej.cutP {K : Act → World → Prop} {ι : Type} (I : ι → Prop) (Lf : ι → Sl) (If : ι → List Item) (Pf : ι → List (World → Prop)) (hK : ∀ a w, (∃ i, I i ∧ Fr N a (Lf i) ∧ WS B w (If i) (Pf i)) → K a w) (i : ι) (hi : I i) (hL : Sub (Lf i) L) (hI : Pick its (If i)) (hp : ∀ p ∈ Pf i, p ∈ ps) : Ej N B K L its ps :=
  .mk <| fun a w hf hw => hK a w ⟨i, hi, hf.sub hL, (hw.pick hI).sub hp⟩
theorem Cj.pick (hp : Pick its its') (hs : ∀ p ∈ ps', p ∈ ps) (h : Cj P N B c Q L its' ps') : Cj P N B c Q L its ps := by
  refine ⟨?_⟩
  intro a w hf hw
  exact h a w hf ((hw.pick hp).sub hs)
/-- A loop; what it needs picked out of what there is. -/
theorem Cj.loopP {ι : Type} (I : ι → Prop) (Lf : ι → Sl) (If : ι → List Item) (Pf : ι → List (World → Prop)) (μ : ι → Nat) (hc : c = .loop c1) (i0 : ι) (h0 : I i0) (hL : Sub (Lf i0) L) (hI : Pick its (If i0)) (hp : ∀ p ∈ Pf i0, p ∈ ps)
    (h : ∀ i, I i → Cj P N B c1 (Exit.then (fun a w => ∃ j, (I j ∧ μ j < μ i) ∧ Fr N a (Lf j) ∧ WS B w (If j) (Pf j)) Q) (Lf i) (If i) (Pf i)) : Cj P N B c Q L its ps :=
  Cj.pick hI hp (Cj.loop I Lf If Pf μ hc i0 h0 hL rfl (fun _ h => h) h)
end
section
variable {P : Program} {N : Nat} {B : Base} {L : Sl} {its : List Item} {ps : List (World → Prop)} {o : Oper} {T n m : Nat} {x y : Operand} {ad ad' : Addr} {xs : List Int} {p q : Int}
namespace Y
/-- A number out of a row of numbers that is only read. -/
theorem loadI (hop : o.op = .load T x) (hx : ev L x = some (.pointer (some ad'))) (hT : ScT P T) (hp : (fun w => (Kd.int .i64).C w (some ad) n xs) ∈ ps) (i : Int) (h0 : 0 ≤ i) (h1 : i < (n : Int)) (had : ad' = ad.add (i.toNat * 1)) : Yd P N B o (.int .i64 (xs.getD i.toNat 0)) L its ps := .mk <| fun a w hf hW => by
  obtain ⟨ad2, c, e, hl, hr, hcell⟩ := ReadsRow.get_ (hW.fact hp) 0 i h0 h1
  injection e with e
  subst e
  have hc : c = [.int .i64 (xs.getD i.toNat 0)] := hr
  subst hc
  have h2 : w.cell? ad' = some (.int .i64 (xs.getD i.toNat 0)) := by rw [had]; exact hcell 0 _ rfl
  generalize Value.int .i64 (xs.getD i.toNat 0) = v at h2 ⊢
  unfold execOp; rw [hop]; simp [hf.ev hx, run_load_one hT.out h2]
/-- A number out of a row of one's own. -/
theorem loadRI {g cap e b : Nat} (hop : o.op = .load T x) (hx : ev L x = some (.pointer (some ⟨g, n, none⟩))) (hT : ScT P T) (hn : Item.row (Kd.int .i64) e b (.slice (some ⟨g, 0, none⟩) m cap) xs ∈ its) (i : Int) (h0 : 0 ≤ i) (h1 : i < (m : Int)) (hj : n = i.toNat * 1) : Yd P N B o (.int .i64 (xs.getD i.toNat 0)) L its ps := .mk <| fun a w hf hW => by
  obtain ⟨S, hR, _⟩ := hW.item hn
  obtain ⟨cs, hcl, hM, hcc, _⟩ := Kd.R_elem hR 0 i h0 h1
  have hc : cs = [.int .i64 (xs.getD i.toNat 0)] := hM
  subst hc
  have h2 : w.cell? ⟨g, n, none⟩ = some (.int .i64 (xs.getD i.toNat 0)) := by rw [hj]; exact hcc 0 _ rfl
  generalize Value.int .i64 (xs.getD i.toNat 0) = v at h2 ⊢
  unfold execOp; rw [hop]; simp [hf.ev hx, run_load_one hT.out h2]
theorem mx {ts : Array TypeId} (hop : o.op = .call { callee := .builtin .max, args := #[x, y], argTypes := ts }) (hx : ev L x = some (.int .i64 p)) (hy : ev L y = some (.int .i64 q)) : Yd P N B o (.int .i64 (if q > p then q else p)) L its ps := .mk <| fun a w hf _ => by
  unfold execOp; rw [hop]
  simp [resolve, invoke, builtin, Builtin.max_, Builtin.max2, hf.ev hx, hf.ev hy]
end Y
end
end Go.Proofs.YtkglpfdoefdhdaaW.SL

namespace Go.Proofs.YtkglpfdoefdhdaaW.SL
open Go Go.RowKit Go.Proofs.YtkglpfdoefdhdaaW.PrintWords Go.Proofs.YtkglpfdoefdhdaaW.PrintLast
set_option linter.unusedSimpArgs false
set_option linter.unusedVariables false
section
variable {P : Program} {ops : Array Oper} {Q : Exit → Act → World → Prop} {md : Region.Mode} {ds : List Nat}
theorem wpAnyB_firstP {i : Nat} {oi : Oper} {v : Value} (hi : ops[i]? = some oi) (hsel : ∀ (j : Nat) (o : Oper) cs b, ops[j]? = some o → o.op ≠ .select cs b)
    (hQ : ∀ c a w, Q (.panic c) (a.put oi.dst v) w → Q (.panic c) a w) :
    ∀ (fuel : Nat) (listed : Array Bool) (a : Act) (w : World),
      (∀ j oj, ops[j]? = some oj → j ≠ i → listed.getD j true = false → (∀ e ∈ oj.after, Region.binds md e = true → e.on ≠ i) → oi.apart ops oj = true) →
      ListedClosed md ops listed →
      i ∈ Region.ready md ops listed → YieldsIf P ops (fun _ => True) oi v a →
      wpAnyB P md ops Q ds fuel (listed.setIfInBounds i true) (a.put oi.dst v) w → wpAnyB P md ops Q ds (fuel + 1) listed a w := by
  intro fuel
  induction fuel with
  | zero =>
    intro listed a w _ _ hr hy H
    refine ⟨fun h => (by rw [h] at hr; cases hr), fun j hj => ?_⟩
    by_cases hji : j = i
    · subst hji; exact hy.wpOp hi trivial ⟨fun _ => Below.refl _ _, H⟩
    · have := ready_mono hj hji
      rw [H.1] at this
      cases this
  | succ fuel ih =>
    intro listed a w hfree hc hr hy H
    refine ⟨fun h => (by rw [h] at hr; cases hr), fun j hj => ?_⟩
    by_cases hji : j = i
    · subst hji; exact hy.wpOp hi trivial ⟨fun _ => Below.refl _ _, H⟩
    · have h1 := H.2 j (ready_mono hj hji)
      obtain ⟨hjun, oj, hoj, hall⟩ := mem_ready.1 hj
      have hiun := (mem_ready.1 hr).1
      have hnot : ∀ e ∈ oj.after, Region.binds md e = true → e.on ≠ i := fun e he hb heq => by
        have h1 := hall e he hb
        rw [heq] at h1
        rcases Nat.lt_or_ge i listed.size with h' | h'
        · simp [h'] at hiun h1; rw [hiun] at h1; cases h1
        · simp [Array.getElem?_eq_none h'] at h1
      have h2 := wpOp_putIf hoj (hfree j oj hoj hji hjun hnot) (fun cs b => hsel i oi cs b hi) (fun cs b => hsel j oj cs b hoj) hQ hy h1
      have hfree' : ∀ k ok, ops[k]? = some ok → k ≠ i → (listed.setIfInBounds j true).getD k true = false →
          (∀ e ∈ ok.after, Region.binds md e = true → e.on ≠ i) → oi.apart ops ok = true := fun k ok hk hki hun hno => by
        refine hfree k ok hk hki ?_ hno
        by_cases hjk : j = k
        · subst hjk; exact hjun
        · rw [getD_set_ne true hjk] at hun; exact hun
      refine wpOp_mono (fun a' w' h3 => ⟨h3.2.1, ih (listed.setIfInBounds j true) a' w' hfree' (hc.set hj) (ready_mono hr (Ne.symm hji)) h3.1 ?_⟩) h2
      rw [Array.setIfInBounds_comm _ _ hji]
      exact h3.2.2
/-- Behind the operation: K; elsewhere Q. -/
def Qn (K : Act → World → Prop) (Q : Exit → Act → World → Prop) : Exit → Act → World → Prop
  | .normal, a, w => K a w
  | e, a, w => Q e a w
theorem wp_Qn {o : Oper} {a : Act} {w : World} {K K' : Act → World → Prop} (h : o.wp P a w K (Qn K' Q)) : o.wp P a w K Q := by
  unfold Oper.wp at h ⊢
  cases hr : (execOp a.eval o).run P w with
  | ok n w' =>
    rw [hr] at h
    cases n with
    | enter f args =>
      rw [Oper.upon_enter] at h ⊢
      refine Calls.mono h (fun e w'' he => ?_)
      cases e with
      | returned v => exact he
      | panicked c => exact he
      | outgrown => exact he
    | _ => exact h
  | halt hh w' =>
    rw [hr] at h
    cases hh <;> exact h
/-- One operation of a region, what follows by K. -/
theorem wpOp_one {D : Dm} {i : Nat} {o : Oper} {a : Act} {w : World} {K : Act → World → Prop} (ho : ops[i]? = some o) (ht : D.takes 0 = false) (hd : i ∈ ds ∨ D.needs 0 = true)
    (h : runG P ops (Qn K Q) D 0 [o] a w) : wpOp P ops Q i (fun a' w' => (i ∉ ds → Below w.heap.size w w') ∧ K a' w') a w := by
  unfold runG at h
  rw [if_neg (by rw [ht]; simp)] at h
  unfold wpOp
  rw [ho]
  dsimp only
  have hds : i ∉ ds → D.needs 0 = true := fun hn => hd.resolve_left hn
  by_cases hw : Region.wanted o (yielded ops a.tmps) = true
  · rw [if_pos hw] at h ⊢
    exact .inl (Oper.wp_mono (fun a' w' h' => ⟨fun hn => h'.1 (hds hn), h'.2⟩) (wp_Qn h))
  · rw [if_neg hw] at h ⊢
    exact ⟨fun _ => Below.refl _ _, h⟩
end
section
variable (P : Program) (N : Nat) (B : Base)
/-- The operations that are listed in l are done; n are left. -/
structure Jw (ds : List Nat) (n : Nat) (ops : Array Oper) (Q : Exit → Act → World → Prop) (l : List Bool) (L : Sl) (its : List Item) (ps : List (World → Prop)) : Prop where
  mk :: (out : ∀ a w, Fr N a L → WS B w its ps → wpAnyB P .any ops Q ds n l.toArray a w)
end
def takeOk (ops : Array Oper) (l : List Bool) (i : Nat) : Bool := takeT (rtab .any ops) [] l (l.set i true) i
def readyAre (ops : Array Oper) (l : List Bool) (is : List Nat) : Bool := readyT (rtab .any ops).2 l == is
section
variable {P : Program} {N : Nat} {B : Base} {L L' : Sl} {its its' : List Item} {ps ps' : List (World → Prop)} {Q : Exit → Act → World → Prop} {ops : Array Oper} {c : Code} {ds : List Nat} {n i j d : Nat} {l : List Bool} {o : Oper} {v : Value}
theorem Cj.regionJ {id : Nat} (hc : c = .region id ops true) (ds : List Nat) (hm : P.follows .mixedOrders = true) (h : Jw P N B ds ops.size ops Q (List.replicate ops.size false) L its ps) : Cj P N B c Q L its ps := by
  subst hc
  refine ⟨?_⟩
  intro a w hf hw
  refine wp_region_any hm ?_
  have hb : Below w.heap.size w { w with drawn := w.drawn + 1 } := ⟨rfl, rfl, rfl, Nat.le_refl _, fun _ _ => rfl⟩
  have := h.out a _ hf (hw.call hb)
  rw [show (List.replicate ops.size false).toArray = Array.replicate ops.size false by simp] at this
  exact wpAny_of_B _ _ _ _ this
theorem Jw.done (hr : readyAre ops l [] = true) (h : Ej N B (Q .normal) L its ps) : Jw P N B ds n ops Q l L its ps := by
  refine ⟨fun a w hf hw => ?_⟩
  simp only [readyAre, beq_iff_eq] at hr
  have hr' : Region.ready .any ops l.toArray = [] := by rw [ready_eq]; simpa using hr
  cases n with
  | zero => exact ⟨hr', h a w hf hw⟩
  | succ n => exact ⟨fun _ => h a w hf hw, fun i hi => by rw [hr'] at hi; cases hi⟩
/-- What is pure is taken. -/
theorem Jw.take (i : Nat) (ho : ops[i]? = some o) (ht : takeOk ops l i = true) (hQ : ∀ c a d v w, Q (.panic c) (Act.put a d v) w → Q (.panic c) a w) (hy : ∀ w, Yd P N (base w) o v L [] []) (hw : wants ops L o = some true) (hd : o.dst = some d) (hN : Nat.blt d N = true)
    (h : Jw P N B ds n ops Q (l.set i true) ((d, v) :: L) its ps) : Jw P N B ds (n + 1) ops Q l L its ps := by
  refine ⟨fun a w hf hW => ?_⟩
  have h3 := take_of (md := .any) (ops := ops) (l := l.toArray) (l' := l.toArray.setIfInBounds i true) rfl (by simpa [takeOk] using ht)
  simp only [takeB, Bool.and_eq_true, beq_iff_eq] at h3
  obtain ⟨⟨⟨⟨⟨g1, g2⟩, g3⟩, g4⟩, g5⟩, _⟩ := h3
  have g3' : i ∈ Region.ready .any ops l.toArray := by simpa using g3
  have := h.out (a.put o.dst v) w (by rw [hd]; exact hf.put hN _) hW
  refine wpAnyB_firstP ho (Region.noSelect_spec g1) (fun c a w => hQ c a _ _ w) n l.toArray a w (Region.free_spec ho g2) (Region.closedB_spec g4) g3' (.inl ⟨hf.wants hw, fun W _ => hy W a W hf (WS.start W)⟩) ?_
  simpa using this
/-- What reads memory is taken, if all that writes waits for it. -/
theorem Jw.takeR (i : Nat) (ho : ops[i]? = some o) (ht : takeT (rtab .any ops) ds l (l.set i true) i = true) (hQ : ∀ c a d v w, Q (.panic c) (Act.put a d v) w → Q (.panic c) a w) (hy : Yd P N B o v L its ps) (hw : wants ops L o = some true) (hd : o.dst = some d) (hN : Nat.blt d N = true)
    (h : Jw P N B ds n ops Q (l.set i true) ((d, v) :: L) its ps) : Jw P N B ds (n + 1) ops Q l L its ps := by
  refine ⟨fun a w hf hW => ?_⟩
  have h3 := take_of (md := .any) (ops := ops) (l := l.toArray) (l' := l.toArray.setIfInBounds i true) rfl (by simpa using ht)
  simp only [takeB, Bool.and_eq_true, beq_iff_eq] at h3
  obtain ⟨⟨⟨⟨⟨g1, g2⟩, g3⟩, g4⟩, g5⟩, _⟩ := h3
  have g3' : i ∈ Region.ready .any ops l.toArray := by simpa using g3
  have := h.out (a.put o.dst v) w (by rw [hd]; exact hf.put hN _) hW
  refine wpAnyB_first ho (Region.noSelect_spec g1) (fun c a w => hQ c a _ _ w) ops.size n l.toArray a w (Region.free_spec ho g2) (Region.closedB_spec g4)
    (fun d hm hun => by have := List.all_eq_true.1 g5 d hm; rw [hun] at this; simpa using this) g3' (.inl ⟨hf.wants hw, fun W hb => hy a W hf (hW.call hb)⟩) ?_
  simpa using this
/-- What alone is ready. -/
theorem Jw.step (D : Dm) (i : Nat) (ho : ops[i]? = some o) (hr : readyAre ops l [i] = true) (hd : (ds.contains i || D.needs 0) = true) (ht : D.takes 0 = false)
    (h : Jl P N B D 0 ops (Qn (wpAnyB P .any ops Q ds n (l.set i true).toArray) Q) [o] L its ps) : Jw P N B ds (n + 1) ops Q l L its ps := by
  refine ⟨fun a w hf hW => ?_⟩
  simp only [readyAre, beq_iff_eq] at hr
  have hr' : Region.ready .any ops l.toArray = [i] := by rw [ready_eq]; simpa using hr
  refine ⟨fun h0 => (by rw [hr'] at h0; cases h0), fun j hj => ?_⟩
  rw [hr'] at hj
  obtain rfl : j = i := by simpa using hj
  have := wpOp_one (ds := ds) ho ht (by simpa using hd) (h a w hf hW)
  simpa using this
/-- Two that are ready: each of them. -/
theorem Jw.br2 (D : Dm) (i j : Nat) {o' : Oper} (ho : ops[i]? = some o) (ho' : ops[j]? = some o') (hr : readyAre ops l [i, j] = true) (hd : ((ds.contains i && ds.contains j) || D.needs 0) = true) (ht : D.takes 0 = false)
    (h : Jl P N B D 0 ops (Qn (wpAnyB P .any ops Q ds n (l.set i true).toArray) Q) [o] L its ps) (h' : Jl P N B D 0 ops (Qn (wpAnyB P .any ops Q ds n (l.set j true).toArray) Q) [o'] L its ps) : Jw P N B ds (n + 1) ops Q l L its ps := by
  refine ⟨fun a w hf hW => ?_⟩
  simp only [readyAre, beq_iff_eq] at hr
  have hr' : Region.ready .any ops l.toArray = [i, j] := by rw [ready_eq]; simpa using hr
  refine ⟨fun h0 => (by rw [hr'] at h0; cases h0), fun k hk => ?_⟩
  rw [hr'] at hk
  rcases (by simpa using hk : k = i ∨ k = j) with rfl | rfl
  · have := wpOp_one (ds := ds) ho ht (by rcases Bool.or_eq_true_iff.1 hd with hd | hd <;> simp_all) (h a w hf hW)
    simpa using this
  · have := wpOp_one (ds := ds) ho' ht (by rcases Bool.or_eq_true_iff.1 hd with hd | hd <;> simp_all) (h' a w hf hW)
    simpa using this
/-- Behind one operation. -/
theorem Jl.jw {D : Dm} {k : Nat} (h : Jw P N B ds n ops Q l L its ps) : Jl P N B D k ops (Qn (wpAnyB P .any ops Q ds n l.toArray) Q) [] L its ps := .mk <| fun a w hf hW => h.out a w hf hW
end
end Go.Proofs.YtkglpfdoefdhdaaW.SL

namespace Go.Proofs.YtkglpfdoefdhdaaW.SL
open Go Go.RowKit Go.Proofs.YtkglpfdoefdhdaaW.PrintWords
set_option linter.unusedSimpArgs false
set_option linter.unusedVariables false
abbrev KJ : Kd Int := Kd.int .i64
abbrev K1 : Kd (List Value) := Kd.raw 1
def cell1 (v : Value) : List Value := [v]
/-- Rows of ints, each in blocks from b on. -/
structure EV (eI b : Nat) (vs : List Value) (xs : List (List Int)) (W : World) : Prop where
  len : vs.length = xs.length
  el : ∀ (j : Nat) (x : List Int) (u : Value), xs[j]? = some x → vs[j]? = some u → KJ.R eI W 0 (fun k => b ≤ k) u x
/-- The same, and the row that holds them. -/
structure GV (eS eI b : Nat) (v : Value) (vs : List Value) (xs : List (List Int)) (W : World) : Prop where
  row : K1.R eS W 0 (fun k => b ≤ k) v (vs.map cell1)
  els : EV eI b vs xs W
section
variable {eS eI b : Nat} {v u : Value} {vs : List Value} {xs : List (List Int)} {x : List Int} {w W : World}
theorem EV.move (h : EV eI b vs xs w) (hm : ∀ k, b ≤ k → k < w.heap.size → W.heap[k]? = w.heap[k]?) : EV eI b vs xs W := ⟨h.len, fun j x u hx hu => Kd.R_step (h.el j x u hx hu) hm⟩
theorem GV.move (h : GV eS eI b v vs xs w) (hm : ∀ k, b ≤ k → k < w.heap.size → W.heap[k]? = w.heap[k]?) : GV eS eI b v vs xs W := ⟨Kd.R_step h.row hm, h.els.move hm⟩
theorem EV.nil : EV eI b [] [] W := ⟨rfl, fun j x u hx => by simp at hx⟩
theorem GV.reads {A : Option Addr} {n c : Nat} (h : GV eS eI b (.slice A n c) vs xs W) : n = vs.length ∧ n ≤ c ∧ K1.C W A (vs.map cell1).length (vs.map cell1) := by
  obtain ⟨h1, h2, h3⟩ := Kd.R_reads' h.row
  exact ⟨by simpa using h1, h2, h3⟩
end
section
variable {B : Base} {w w0 : World} {its : List Item} {ps : List (World → Prop)} {eS eI b g : Nat} {v u : Value} {vs : List Value} {xs : List (List Int)} {x : List Int}
theorem WS.pure (h : WS B w its ps) {p : World → Prop} (hp : ∀ W, p W) : WS B w its (p :: ps) := h.lay (fun S _ _ W _ => hp W)
end
section
variable {P : Program} {N : Nat} {B : Base} {w0 : World} {L L' : Sl} {its its' : List Item} {ps ps' : List (World → Prop)} {Q : Exit → Act → World → Prop} {D : Dm} {k : Nat} {ops : Array Oper} {rest : List Oper} {o : Oper} {d T n m gx eS eI b bytes : Nat} {v u : Value} {x y : Operand} {vs : List Value} {xs : List (List Int)} {z : List Int}
/-- A call that writes the row in the third field of its first argument. -/
theorem Jl.callMc {v0 x0 y0 r : Value} {vs : List Value} (I I' : Value → Item) {f : FuncId} {args : Array Operand} {ts : Array TypeId} (hw : wants ops L o = some true) (hop : o.op = .call { callee := .value (.func f), args := args, argTypes := ts }) (hd : o.dst = some d) (hN : Nat.blt d N = true)
    (he : Ent P f) (hargs : evs L args.toList = some (.agg [x0, y0, v0].toArray :: vs)) (hn : SetAt (I v0) (I' v0) its its')
    (hc : ∀ w A, WS B w its ps → (I v0).p w A → Calls P f (.agg [x0, y0, v0].toArray :: vs).toArray w fun e' w' => e' = .returned r ∧ ∃ A', (I' v0).p w' A' ∧ (∀ k, A' k → k < w.heap.size → A k) ∧ Aft A w w')
    (h : Jl P N B D (k + 1) ops Q rest ((d, r) :: L) its' ps) (hD : D.takes k = false := by rfl) (hE : D.needs k = false := by rfl) : Jl P N B D k ops Q (o :: rest) L its ps :=
  Jl.callM (I v0) (I' v0) hw hop hd hN he hargs hn hc h hD hE
end
end Go.Proofs.YtkglpfdoefdhdaaW.SL

namespace Go.Proofs.YtkglpfdoefdhdaaW.SL
open Go Go.RowKit Go.Proofs Go.Proofs.YtkglpfdoefdhdaaW.PrintWords
set_option linter.unusedSimpArgs false
set_option linter.unusedVariables false
section
variable {β γ : Type}
/-- x goes left past all that are greater: A (the nearest first) lies left of it, B right. -/
def goI (lt : β → β → Bool) (x : β) : List β → List β → List β
  | [], B => x :: B
  | y :: A, B => if lt x y = true then goI lt x A (y :: B) else A.reverse ++ y :: x :: B
def insR (lt : β → β → Bool) (s : List β) (x : β) : List β := goI lt x s.reverse []
def isort (lt : β → β → Bool) (l : List β) : List β := l.foldl (insR lt) []
theorem snoc_ind {p : List β → Prop} (h0 : p []) (h1 : ∀ l x, p l → p (l ++ [x])) (l : List β) : p l := by
  rw [← l.reverse_reverse]
  induction l.reverse with
  | nil => exact h0
  | cons a t ih => rw [List.reverse_cons]; exact h1 _ _ ih
theorem goI_len (lt : β → β → Bool) (x : β) : ∀ A B, (goI lt x A B).length = A.length + B.length + 1
  | [], B => by simp [goI]
  | y :: A, B => by
    unfold goI
    split
    · rw [goI_len lt x A]; simp; omega
    · simp; omega
theorem goI_mem (lt : β → β → Bool) (x z : β) : ∀ A B, z ∈ goI lt x A B → z = x ∨ z ∈ A ∨ z ∈ B
  | [], B, h => by
    unfold goI at h
    rcases List.mem_cons.1 h with h | h
    · exact .inl h
    · exact .inr (.inr h)
  | y :: A, B, h => by
    unfold goI at h
    split at h
    · rcases goI_mem lt x z A _ h with h | h | h
      · exact .inl h
      · exact .inr (.inl (List.mem_cons_of_mem _ h))
      · rcases List.mem_cons.1 h with h | h
        · exact .inr (.inl (h ▸ List.mem_cons_self))
        · exact .inr (.inr h)
    · simp only [List.mem_append, List.mem_reverse, List.mem_cons] at h ⊢
      rcases h with h | h | h | h
      · exact .inr (.inl (.inr h))
      · exact .inr (.inl (.inl h))
      · exact .inl h
      · exact .inr (.inr h)
theorem insR_len (lt : β → β → Bool) (s : List β) (x : β) : (insR lt s x).length = s.length + 1 := by simp [insR, goI_len]
theorem insR_mem {lt : β → β → Bool} {s : List β} {x z : β} (h : z ∈ insR lt s x) : z = x ∨ z ∈ s := by
  rcases goI_mem lt x z _ _ h with h | h | h
  · exact .inl h
  · exact .inr (List.mem_reverse.1 h)
  · cases h
theorem isort_snoc (lt : β → β → Bool) (l : List β) (x : β) : isort lt (l ++ [x]) = insR lt (isort lt l) x := by simp [isort]
theorem isort_len (lt : β → β → Bool) (l : List β) : (isort lt l).length = l.length := by
  induction l using snoc_ind with
  | h0 => rfl
  | h1 l x ih => rw [isort_snoc, insR_len, ih]; simp
theorem isort_mem {lt : β → β → Bool} {z : β} {l : List β} : z ∈ isort lt l → z ∈ l := by
  induction l using snoc_ind with
  | h0 => exact id
  | h1 l x ih =>
    rw [isort_snoc]
    intro h
    rcases insR_mem h with h | h
    · simp [h]
    · simp [ih h]
theorem goI_map (f : β → γ) {lt : β → β → Bool} {lt' : γ → γ → Bool} (x : β) : ∀ A B, (∀ y, y ∈ A → lt' (f x) (f y) = lt x y) → goI lt' (f x) (A.map f) (B.map f) = (goI lt x A B).map f
  | [], B, _ => by simp [goI]
  | y :: A, B, h => by
    have h0 := h y List.mem_cons_self
    unfold goI
    rw [List.map_cons]
    simp only [h0]
    split
    · rw [← List.map_cons, goI_map f x A _ (fun z hz => h z (List.mem_cons_of_mem _ hz))]
    · simp
theorem isort_map (f : β → γ) {lt : β → β → Bool} {lt' : γ → γ → Bool} {l : List β} : (∀ x y, x ∈ l → y ∈ l → lt' (f x) (f y) = lt x y) → isort lt' (l.map f) = (isort lt l).map f := by
  induction l using snoc_ind with
  | h0 => intro _; rfl
  | h1 l x ih =>
    intro h
    rw [List.map_append, List.map_singleton, isort_snoc, isort_snoc, ih (fun a b ha hb => h a b (by simp [ha]) (by simp [hb]))]
    unfold insR
    rw [← List.map_reverse]
    exact goI_map f x _ [] (fun y hy => h x y (by simp) (by simp [isort_mem (List.mem_reverse.1 hy)]))
end
section
variable {α : Type} {dk : Kd α} {enc : α → List Value}
/-- A row of flat records, as a row of bare cells. -/
theorem row_raw {sz e b : Nat} {w : World} {A : Nat → Prop} {v : Value} {xs : List α} (hsz : dk.sz = sz) (hM : ∀ w b ok x cs, dk.M w b ok x cs ↔ cs = enc x) (hl : ∀ x, (enc x).length = sz) (ho : ∀ x, ∀ u ∈ enc x, u.oneCell' = true) :
    (Item.row dk e b v xs).p w A ↔ (Item.row (Kd.raw sz) e b v (xs.map enc)).p w A := by
  have hrep : ∀ (A' : Nat → Prop) inner, Reps (dk.M w b A') dk.sz xs inner ↔ Reps ((Kd.raw sz).M w b A') (Kd.raw sz).sz (xs.map enc) inner := fun A' inner => by
    rw [hsz]
    constructor
    · rintro ⟨h1, h2⟩
      refine ⟨by rw [List.length_map]; exact h1, fun j p hp => ?_⟩
      rw [List.getElem?_map, Option.map_eq_some_iff] at hp
      obtain ⟨x, hx, rfl⟩ := hp
      have h3 := (hM _ _ _ _ _).1 (h2 j x hx)
      show (inner.drop (j * sz)).take sz = enc x ∧ ((inner.drop (j * sz)).take sz).length = sz ∧ ∀ u ∈ (inner.drop (j * sz)).take sz, u.oneCell' = true
      rw [h3]
      exact ⟨rfl, hl x, ho x⟩
    · rintro ⟨h1, h2⟩
      rw [List.length_map] at h1
      refine ⟨h1, fun j x hx => (hM _ _ _ _ _).2 ?_⟩
      have h3 : (inner.drop (j * sz)).take sz = enc x ∧ ((inner.drop (j * sz)).take sz).length = sz ∧ ∀ u ∈ (inner.drop (j * sz)).take sz, u.oneCell' = true := h2 j (enc x) (by rw [List.getElem?_map, hx]; rfl)
      exact h3.1
  have hR : dk.R e w b A v xs ↔ (Kd.raw sz).R e w b A v (xs.map enc) := by
    constructor
    · rintro ⟨h0, inner, h1, h2⟩
      refine ⟨h0, inner, ?_, (hrep _ inner).1 h2⟩
      rw [List.length_map]
      rw [hsz] at h1
      exact h1
    · rintro ⟨h0, inner, h1, h2⟩
      refine ⟨h0, inner, ?_, (hrep _ inner).2 h2⟩
      rw [List.length_map] at h1
      rw [hsz]
      exact h1
  exact and_congr hR Iff.rfl
end
section
variable {P : Program} {N : Nat} {B : Base} {L : Sl} {its : List Item} {ps : List (World → Prop)}
theorem Ej.out0 {fn : Func} {R : Ending → World → Prop} {K : Act → World → Prop} (hK : ∀ a w, bodyPost P fn R .ret a w → K a w) (hr : fn.results = #[]) (hR : ∀ w, WS B w its ps → R (.returned (.tuple #[])) w) : Ej N B K L its ps := by
  refine ⟨?_⟩
  intro a w hf hw
  refine hK a w ⟨hf.defers, .tuple #[], ?_, hR w hw⟩
  simp [results, hr]
namespace Y
end Y
end
end Go.Proofs.YtkglpfdoefdhdaaW.SL

namespace Go.Proofs.YtkglpfdoefdhdaaW.SL
open Go Go.RowKit Go.Proofs.YtkglpfdoefdhdaaW.PrintWords
set_option linter.unusedSimpArgs false
set_option linter.unusedVariables false
section
variable {P : Program} {N : Nat} {B : Base} {L : Sl} {its : List Item} {ps : List (World → Prop)} {o : Oper} {T n m : Nat} {x : Operand} {ad ad' : Addr} {α : Type} {dk : Kd α} {xs : List α} {u : Value}
namespace Y
/-- A whole element of a row of numbers' records that is only read. -/
theorem loadK (z : α) (us : List Value) (hop : o.op = .load T x) (hx : ev L x = some (.pointer (some ad'))) (hT : AggT P T m) (hp : (fun w => dk.C w (some ad) n xs) ∈ ps) (i : Int) (h0 : 0 ≤ i) (h1 : i < (n : Int)) (had : ad' = ad.add (i.toNat * dk.sz)) (hus : ∀ w cs, dk.K w (xs.getD i.toNat z) cs → cs = us) (hl : Nat.beq us.length m = true) : Yd P N B o (.agg us.toArray) L its ps := .mk <| fun a w hf hW => by
  obtain rfl := Nat.eq_of_beq_eq_true hl
  obtain ⟨ad2, c, e, hl, hr, hcell⟩ := ReadsRow.get_ (hW.fact hp) z i h0 h1
  injection e with e
  subst e
  obtain rfl := hus w c hr
  have hC : Cells w ad' c := fun j u hu => by rw [had, add_add]; exact hcell j u hu
  unfold execOp; rw [hop]; simp [hf.ev hx, run_load_agg hT.out hC]
end Y
end
end Go.Proofs.YtkglpfdoefdhdaaW.SL

namespace Go.Proofs.YtkglpfdoefdhdaaW.SL
open Go Go.RowKit Go.Sort Go.Shelf Go.Lib Go.Proofs Go.Proofs.YtkglpfdoefdhdaaW.PrintWords
set_option linter.unusedSimpArgs false
set_option linter.unusedVariables false
abbrev KI : Kd Int := Kd.int .i64
abbrev eI (l : List Int) : List Value := l.map (Value.int .i64)
theorem reps_I {w : World} {b : Nat} {ok : Nat → Prop} : ∀ {xs : List Int} {cs : List Value}, Reps (KI.M w b ok) KI.sz xs cs ↔ cs = eI xs := by
  intro xs cs
  constructor
  · rintro ⟨h1, h2⟩
    have h1' : cs.length = xs.length := by rw [h1]; show xs.length * 1 = _; omega
    apply List.ext_getElem?
    intro j
    rw [List.getElem?_map]
    by_cases hj : j < xs.length
    · have h3 := h2 j xs[j] (List.getElem?_eq_getElem hj)
      have h4 : (cs.drop (j * 1)).take 1 = [Value.int .i64 xs[j]] := h3
      rw [List.getElem?_eq_getElem hj, Option.map_some]
      have h5 := congrArg (fun l => l[0]?) h4
      simpa [List.getElem?_take, List.getElem?_drop] using h5
    · rw [List.getElem?_eq_none (by omega), List.getElem?_eq_none (by omega)]; rfl
  · rintro rfl
    refine ⟨by simp [show KI.sz = 1 from rfl], fun j p hj => ?_⟩
    show ((eI xs).drop (j * 1)).take 1 = [Value.int .i64 p]
    have hlt : j < xs.length := (List.getElem?_eq_some_iff.1 hj).1
    have : ((eI xs).drop (j * 1)) = Value.int .i64 p :: (eI xs).drop (j + 1) := by
      rw [Nat.mul_one, List.drop_eq_getElem_cons (by simpa using hlt)]
      congr 1
      simp [(List.getElem?_eq_some_iff.1 hj).2]
    rw [this]; rfl
theorem row_I {w : World} {e b : Nat} {ok : Nat → Prop} {v : Value} {xs : List Int} : KI.R e w b ok v xs ↔ (∀ k, v.ownBlock = some k → ok k) ∧ w.ownsRow b e 1 v xs.length (eI xs) := by
  constructor
  · rintro ⟨h1, inner, h2, h3⟩
    have := reps_I.1 h3
    subst this
    exact ⟨h1, h2⟩
  · rintro ⟨h1, h2⟩
    exact ⟨h1, _, h2, reps_I.2 rfl⟩
theorem putRow_heap (w : World) (q g : Nat) (d : Array Int) (os : Array Obj) : (grow (putRow (Value.int .i64) (Sort.ahead w q) g 0 d) os).heap = w.heap.modify g (onCells (putCells (Value.int .i64) 0 d)) ++ os := rfl
/-- A row of ints whose cells were written anew, cut to its first m. -/
theorem putI {w : World} {e b g cap q m : Nat} {os : Array Obj} {A : Nat → Prop} {xs : List Int} (h : (Item.row KI e b (.slice (some ⟨g, 0, none⟩) xs.length cap) xs).p w A) (ys : List Int) (hl : ys.length = xs.length) (hm : m ≤ xs.length) :
    (Item.row KI e b (.slice (some ⟨g, 0, none⟩) (ys.take m).length cap) (ys.take m)).p (grow (putRow (Value.int .i64) (Sort.ahead w q) g 0 ys.toArray) os) A ∧ Aft A w (grow (putRow (Value.int .i64) (Sort.ahead w q) g 0 ys.toArray) os) := by
  obtain ⟨hr, hlt⟩ := h
  obtain ⟨h1, h2, h3⟩ := row_I.1 hr
  have hg : A g := h1 g rfl
  have hgl := hlt g hg
  have hml : (ys.take m).length = m := by rw [List.length_take]; omega
  rcases h3 with ⟨h3, _⟩ | ⟨g', cap', cur, h4, h5, h6, h7, h8, h9, h10⟩
  · cases h3
  simp only [Value.slice.injEq, Option.some.injEq, Addr.mk.injEq, and_true, true_and] at h4
  obtain ⟨rfl, rfl⟩ := h4
  have hsz : w.heap.size ≤ (grow (putRow (Value.int .i64) (Sort.ahead w q) g 0 ys.toArray) os).heap.size := by rw [putRow_heap]; simp
  have hat : ∀ k, k < w.heap.size → (grow (putRow (Value.int .i64) (Sort.ahead w q) g 0 ys.toArray) os).heap[k]? = (w.heap.modify g (onCells (putCells (Value.int .i64) 0 ys.toArray)))[k]? := fun k hk => by
    rw [putRow_heap, Array.getElem?_append_left (by simpa using hk)]
  refine ⟨⟨row_I.2 ⟨h1, by simp, .inr ⟨g, cap, putCells (Value.int .i64) 0 ys.toArray cur, rfl, h5, ?_, by rw [hml]; omega, h8, by simp [putCells, h9], ?_⟩⟩, fun k hk => Nat.lt_of_lt_of_le (hlt k hk) hsz⟩, rfl, rfl, rfl, hsz, fun k hk hn => ?_⟩
  · rw [hat g hgl, Array.getElem?_modify, if_pos rfl, h6]; rfl
  · rw [hml]
    apply List.ext_getElem?
    intro j
    rw [List.getElem?_take, List.getElem?_map, List.getElem?_take]
    by_cases hj : j < m
    · rw [if_pos (by omega), if_pos hj]
      have hjy : j < ys.length := by omega
      have hjc : j < cur.size := by omega
      simp only [putCells, Array.getElem?_toList, Array.getElem?_mapIdx, Array.getElem?_eq_getElem hjc, Option.map_some, Nat.zero_add, List.size_toArray]
      rw [if_pos ⟨Nat.zero_le _, hjy⟩, List.getElem?_eq_getElem hjy]
      simp [hjy]
    · rw [if_neg (by omega), if_neg hj]; rfl
  · rw [hat k hk, Array.getElem?_modify, if_neg (fun e : g = k => hn (e ▸ hg))]
theorem holds_I {w : World} {e b g cap : Nat} {A : Nat → Prop} {xs : List Int} (h : (Item.row KI e b (.slice (some ⟨g, 0, none⟩) xs.length cap) xs).p w A) : Holds (Value.int .i64) w g 0 xs.toArray ∧ g < w.heap.size ∧ xs.length ≤ cap := by
  obtain ⟨hr, hlt⟩ := h
  obtain ⟨h1, h2, h3⟩ := row_I.1 hr
  rcases h3 with ⟨h3, _⟩ | ⟨g', cap', cur, h4, h5, h6, h7, h8, h9, h10⟩
  · cases h3
  simp only [Value.slice.injEq, Option.some.injEq, Addr.mk.injEq, and_true, true_and] at h4
  obtain ⟨rfl, rfl⟩ := h4
  refine ⟨fun j hj => ?_, hlt g (h1 g rfl), h7⟩
  have hjx : j < xs.length := by simpa using hj
  have h11 := congrArg (fun l => l[j]?) h10
  simp only [List.getElem?_take, List.getElem?_map] at h11
  rw [if_pos (by omega), List.getElem?_eq_getElem hjx, Array.getElem?_toList] at h11
  have hd : xs.toArray[j]! = xs[j] := by simp [hjx]
  refine ⟨?_, ?_⟩
  · rw [hd]; simp [World.cell?, h6, h11]
  · simp [World.frozen?, h6]
section
variable {P : Program} {ρ : Ren}
def sortI (xs : List Int) : List Int := xs.mergeSort fun x y => decide (x ≤ y)
theorem sortI_len (xs : List Int) : (sortI xs).length = xs.length := List.length_mergeSort _
/-- What a row of ints is: nil, or a block of its own. -/
theorem row_cases {e b cap : Nat} {A : Option Addr} {S : Nat → Prop} {xs : List Int} {w : World} (h : (Item.row KI e b (.slice A xs.length cap) xs).p w S) : xs = [] ∨ ∃ g, A = some ⟨g, 0, none⟩ := by
  obtain ⟨h1, h2, h3⟩ := row_I.1 h.1
  rcases h3 with ⟨_, h3⟩ | ⟨g', cap', cur, h4, _⟩
  · exact .inl (List.length_eq_zero_iff.1 h3)
  · simp only [Value.slice.injEq] at h4
    exact .inr ⟨g', h4.1⟩
/-- slices.Sort at a row of ints. -/
theorem sort_I (Ly : SlLaysM.n5 P ρ) {e b cap : Nat} {A : Option Addr} {S : Nat → Prop} {xs : List Int} {w : World} (h : (Item.row KI e b (.slice A xs.length cap) xs).p w S) (hs : xs.length < 4611686018427387904) :
    Calls P (ρ.f 5) #[.slice A xs.length cap] w fun e' w' => e' = .returned (.tuple #[]) ∧ ∃ S', (Item.row KI e b (.slice A (sortI xs).length cap) (sortI xs)).p w' S' ∧ (∀ k, S' k → k < w.heap.size → S k) ∧ Aft S w w' := by
  rcases row_cases h with rfl | ⟨g, rfl⟩
  · refine (AnyM.slices_Sort_int_none Ly A cap w).mono ?_
    rintro e' w' ⟨rfl, rfl⟩
    have e0 : sortI [] = [] := by simp [sortI]
    rw [e0]
    exact ⟨rfl, S, h, fun k hk _ => hk, Aft.refl _ _⟩
  · obtain ⟨h1, h2, h3⟩ := holds_I h
    refine (AnyM.slices_Sort_int Ly g 0 cap xs w h1 h2 hs).mono ?_
    rintro e' w' ⟨rfl, n, os, rfl⟩
    have hp := putI (q := n) (os := os) (m := xs.length) h (sortI xs) (sortI_len xs) (Nat.le_refl _)
    rw [List.take_of_length_le (by rw [sortI_len]; exact Nat.le_refl _)] at hp
    exact ⟨rfl, S, hp.1, fun k hk _ => hk, hp.2⟩
theorem compact_len (xs : List Int) : (Lib.compact xs).length ≤ xs.length := by
  unfold Lib.compact Lib.compactUpTo
  rw [List.length_map]
  exact Nat.le_trans (List.length_filter_le _ _) (by rw [List.length_range]; exact Nat.le_refl _)
/-- slices.Compact at a row of ints. -/
theorem compact_I (Ly : SlLaysN.n43 P ρ) {e b cap : Nat} {A : Option Addr} {S : Nat → Prop} {xs : List Int} {w : World} (h : (Item.row KI e b (.slice A xs.length cap) xs).p w S) (hs : xs.length ≤ 9223372036854775807) :
    Calls P (ρ.f 43) #[.slice A xs.length cap] w fun e' w' => e' = .returned (.slice A (Lib.compact xs).length cap) ∧ ∃ S', (Item.row KI e b (.slice A (Lib.compact xs).length cap) (Lib.compact xs)).p w' S' ∧ (∀ k, S' k → k < w.heap.size → S k) ∧ Aft S w w' := by
  rcases row_cases h with rfl | ⟨g, rfl⟩
  · refine (AnyG.slices_Compact_int_empty Ly A cap w).mono ?_
    rintro e' w' ⟨rfl, rfl⟩
    exact ⟨rfl, S, h, fun k hk _ => hk, Aft.refl _ _⟩
  · obtain ⟨h1, h2, h3⟩ := holds_I h
    refine (AnyG.slices_Compact_int Ly g 0 cap xs w h1 hs h3).mono ?_
    rintro e' w' ⟨rfl, q, rfl⟩
    have hl := compact_len xs
    have hp := putI (q := q) (os := #[]) (m := (Lib.compact xs).length) h (Lib.compact xs ++ List.replicate (xs.length - (Lib.compact xs).length) 0) (by rw [List.length_append, List.length_replicate]; omega) hl
    rw [List.take_left] at hp
    have hg : ∀ W : World, grow W #[] = W := fun W => by unfold grow; simp
    rw [hg] at hp
    exact ⟨rfl, S, hp.1, fun k hk _ => hk, hp.2⟩
end
section
variable {P : Program} {N : Nat} {B : Base} {L L' : Sl} {its its' : List Item} {ps ps' : List (World → Prop)} {Q : Exit → Act → World → Prop} {D : Dm} {k : Nat} {ops : Array Oper} {rest : List Oper} {o : Oper} {d T n m c sz e bytes : Nat} {v v2 : Value} {x y z : Operand} {A : Option Addr} {j : Int} {kd : IntKind}
theorem map_add0 (A : Option Addr) : A.map (·.add 0) = A := by
  cases A with
  | none => rfl
  | some a => simp [Addr.add]
namespace Y
/-- l[:j]. -/
theorem sliTo (hop : o.op = .slice T x none (some y) none) (hx : ev L x = some (.slice A n c)) (hy : ev L y = some (.int kd j)) (hT : ElT P T e sz) (h0 : 0 ≤ j) (h1 : j ≤ (c : Int)) : Yd P N B o (.slice A j.toNat c) L its ps := .mk <| fun a w hf _ => by
  have hTo := hT.out
  unfold elT at hTo
  cases hu : P.underlying T with
  | none => simp [hu] at hTo
  | some dd =>
    cases dd <;> simp [hu] at hTo
    obtain ⟨i, hi, rfl, rfl⟩ := hTo
    have h2 := map_add0 A
    unfold execOp; rw [hop]
    simp [Instr.sliceAt, Instr.slice, Instr.sliceBounds, run_sliceBound, hf.ev hx, hf.ev hy, run_underlying hu, sizeOf, typeInfo, hi, h0, h1, h2]
/-- l[j:]. -/
theorem sliFrom (hop : o.op = .slice T x (some y) none none) (hx : ev L x = some (.slice A n c)) (hy : ev L y = some (.int kd j)) (hT : ElT P T e sz) (h0 : 0 ≤ j) (h1 : j ≤ (n : Int)) : Yd P N B o (.slice (if c = j.toNat then A else A.map (·.add (j.toNat * sz))) (n - j.toNat) (c - j.toNat)) L its ps := .mk <| fun a w hf _ => by
  have hTo := hT.out
  unfold elT at hTo
  cases hu : P.underlying T with
  | none => simp [hu] at hTo
  | some dd =>
    cases dd <;> simp [hu] at hTo
    obtain ⟨i, hi, rfl, rfl⟩ := hTo
    unfold execOp; rw [hop]
    simp [Instr.sliceAt, Instr.slice, Instr.sliceBounds, run_sliceBound, hf.ev hx, hf.ev hy, run_underlying hu, sizeOf, typeInfo, hi, h0, h1]
end Y
theorem run_app_none {w : World} (base : Nat) (t ty e : TypeId) (i : TypeInfo) (size : Nat) (ht : P.underlying t = some (.slice e)) (hi : P.info? e = some i)
    (v : Value) (n c : Nat) (xs : List Value) (hown : w.ownsRow base e size v n xs) :
    (Builtin.append_ #[t, t] ty #[v, .slice none 0 c]).run P w = .ok v w := by
  rcases hown.2 with ⟨rfl, rfl⟩ | ⟨g, cap, cur, rfl, _, _, hnc, _⟩
  · simp [Builtin.append_, run_underlying ht, sizeOf, typeInfo, hi, Builtin.lenOf, Builtin.firstCells]
  · simp [Builtin.append_, run_underlying ht, sizeOf, typeInfo, hi, Builtin.lenOf, Builtin.firstCells, hnc, storeCells]
/-- x = append(x, l..), l a row of ints that is only read. -/
theorem Jl.appI {xs zs : List Int} {A2 : Option Addr} {c2 : Nat} (hw : wants ops L o = some true) (hop : o.op = .call { callee := .builtin .append, args := #[x, y], argTypes := #[T, T] }) (hd : o.dst = some d) (hN : Nat.blt d N = true) (hx : ev L x = some v) (hy : ev L y = some (.slice A2 m c2))
    (hT : ApT P T e 1 8) (hm : m = zs.length) (hp : (fun w => KI.C w A2 zs.length zs) ∈ ps) (hn : OutAt (.row KI e 0 v xs) its its') (hl : (xs.length + zs.length) * 8 ≤ 140737488355328)
    (h : ∀ A c, (xs ++ zs).length ≤ c → Jl P N B D (k + 1) ops Q rest ((d, .slice A (xs ++ zs).length c) :: L) (.row KI e 0 (.slice A (xs ++ zs).length c) (xs ++ zs) :: its') ps) (hD : D.takes k = false := by rfl) (hEE : D.needs k = false := by rfl) : Jl P N B D k ops Q (o :: rest) L its ps := by
  subst hm
  obtain ⟨n, hn0, rfl⟩ := hn.at
  refine ⟨?_⟩
  intro a w hf hW
  obtain ⟨i, zz, i1, i2, i3, i4, i5⟩ := hT.inf
  have hC := hW.fact hp
  obtain ⟨A, g1, g2, g3⟩ := hW.beside hn0
  obtain ⟨q0, hown⟩ := row_I.1 g1.1
  obtain ⟨v', w', e1, e2, e3, e4⟩ : ∃ v' w', (Builtin.append_ #[T, T] o.type #[v, .slice A2 zs.length c2]).run P w = .ok v' w' ∧ w'.ownsRow 0 e 1 v' (xs.length + zs.length) (eI xs ++ eI zs) ∧ w.grownBy w' v.ownBlock ∧ (v'.ownBlock = v.ownBlock ∨ v'.ownBlock = some w.heap.size) := by
    cases A2 with
    | none =>
      obtain rfl : zs = [] := by
        rcases Nat.eq_zero_or_pos zs.length with h0 | h0
        · exact List.length_eq_zero_iff.1 h0
        · obtain ⟨ad, e, _⟩ := hC.2.2 h0
          cases e
      exact ⟨v, w, run_app_none 0 T o.type e i 1 hT.und i1 v xs.length c2 (eI xs) hown, by simpa using hown, ⟨rfl, rfl, rfl, Nat.le_refl _, fun _ _ _ => rfl⟩, .inl rfl⟩
    | some ad =>
      obtain ⟨v', w', e1, e2, e3, _, e4⟩ := run_append_own_at (P := P) (w := w) 0 T o.type e i zz 1 8 hT.und i1 i2 i3 i4 i5 hT.pos v xs.length _ hown ad zs.length c2 (eI zs) (by simp) (fun j u hu => by
        rw [List.getElem?_map] at hu
        cases hz : zs[j]? with
        | none => rw [hz] at hu; cases hu
        | some p =>
          rw [hz] at hu
          simp only [Option.map_some, Option.some.injEq] at hu
          subst hu
          have hlt : j < zs.length := (List.getElem?_eq_some_iff.1 hz).1
          obtain ⟨ad2, ha, hcell⟩ := hC.2.2 (by omega)
          injection ha with ha
          subst ha
          obtain ⟨cs, c1, c2, c3⟩ := hcell j p hz
          have c2' : cs = [.int .i64 p] := c2
          subst c2'
          have := c3 0 _ rfl
          simpa [show KI.sz = 1 from rfl] using this) (fun u hu => by
        obtain ⟨p, _, rfl⟩ := List.mem_map.1 hu
        rfl) (by simp only [maxLen]; omega) hl (Nat.zero_le _)
      exact ⟨v', w', e1, e2, e3, e4⟩
  have hown' : w'.ownsRow 0 e 1 v' (xs ++ zs).length (eI (xs ++ zs)) := by rw [List.length_append]; simpa [eI] using e2
  obtain ⟨A', c', rfl, hc'⟩ : ∃ A' c', v' = .slice A' (xs ++ zs).length c' ∧ (xs ++ zs).length ≤ c' := by
    rcases hown'.2 with ⟨rfl, h0⟩ | ⟨g, cap, cur, rfl, _, _, h7, _⟩
    · exact ⟨none, 0, by rw [h0], by rw [h0]; exact Nat.le_refl _⟩
    · exact ⟨_, cap, rfl, h7⟩
  have hAown : ∀ k, v.ownBlock = some k → A k := q0
  have haft : Aft A w w' := ⟨e3.os, e3.tape, e3.output, e3.size, fun k hk hnA => e3.block k hk (fun e => hnA (hAown k e.symm))⟩
  have hblt : ∀ k, (Value.slice A' (xs ++ zs).length c').ownBlock = some k → k < w'.heap.size := fun k hk => by
    rcases hown'.2 with ⟨e0, _⟩ | ⟨g, cap, cur, e0, _, h6, _⟩
    · rw [e0] at hk; cases hk
    · rw [e0] at hk
      obtain rfl : g = k := by simpa [Value.ownBlock] using hk
      exact blk_lt h6
  unfold runG
  rw [if_neg (by rw [hD]; simp), if_pos (hf.wants hw)]
  have hrun : (execOp a.eval o).run P w = .ok (.value (.slice A' (xs ++ zs).length c')) w' := by
    unfold execOp; rw [hop]
    simp only [List.length_append] at e1 ⊢
    simp [resolve, invoke, builtin, hf.ev hx, hf.ev hy, e1]
  unfold Oper.wp
  rw [hrun, Oper.upon_value, hd]
  refine ⟨fun h' => (by rw [hEE] at h'; cases h'), ?_⟩
  exact h A' c' hc' _ _ (hf.put hN _) (g3 w' _ (fun k => (Value.slice A' (xs ++ zs).length c').ownBlock = some k) ⟨row_I.2 ⟨fun k hk => hk, hown'⟩, hblt⟩ (fun k hk hlt => by
    rcases e4 with e4 | e4
    · exact hAown k (e4 ▸ hk)
    · rw [e4] at hk
      injection hk with hk
      omega) haft)
end
end Go.Proofs.YtkglpfdoefdhdaaW.SL

namespace Go.Proofs.YtkglpfdoefdhdaaW.SL
open Go Go.RowKit Go.Proofs Go.Proofs.YtkglpfdoefdhdaaW.PrintWords
set_option linter.unusedSimpArgs false
set_option linter.unusedVariables false
structure Flat {α : Type} (dk : Kd α) (enc : α → List Value) (sz : Nat) : Prop where
  hsz : dk.sz = sz
  M : ∀ w b ok x cs, dk.M w b ok x cs ↔ cs = enc x
  K : ∀ w x cs, dk.K w x cs → cs = enc x
  len : ∀ x, (enc x).length = sz
  one : ∀ x, ∀ u ∈ enc x, u.oneCell' = true
  pos : 0 < sz
section
variable {α : Type} {dk : Kd α} {enc : α → List Value} {sz : Nat}
theorem flat_len (hl : ∀ x, (enc x).length = sz) : ∀ xs : List α, (xs.flatMap enc).length = xs.length * sz
  | [] => by simp
  | x :: xs => by rw [List.flatMap_cons, List.length_append, hl, flat_len hl xs, List.length_cons, Nat.add_mul, Nat.one_mul, Nat.add_comm]
theorem flat_get (hl : ∀ x, (enc x).length = sz) (hpos : 0 < sz) : ∀ (xs : List α) (j : Nat), (xs.flatMap enc)[j]? = (xs[j / sz]?).bind (fun x => (enc x)[j % sz]?)
  | [], j => by simp
  | x :: xs, j => by
    rw [List.flatMap_cons]
    by_cases h : j < sz
    · rw [List.getElem?_append_left (by rw [hl]; exact h), Nat.div_eq_of_lt h, Nat.mod_eq_of_lt h]; rfl
    · obtain ⟨d, rfl⟩ : ∃ d, j = d + sz := ⟨j - sz, by omega⟩
      rw [List.getElem?_append_right (by rw [hl]; omega), hl, Nat.add_sub_cancel, flat_get hl hpos xs d, Nat.add_div_right _ hpos, Nat.add_mod_right]; rfl
theorem reps_F (hF : Flat dk enc sz) {w : World} {b : Nat} {ok : Nat → Prop} {xs : List α} {cs : List Value} : Reps (dk.M w b ok) dk.sz xs cs ↔ cs = xs.flatMap enc := by
  rw [hF.hsz]
  constructor
  · rintro ⟨h1, h2⟩
    apply List.ext_getElem?
    intro j
    rw [flat_get hF.len hF.pos]
    by_cases hj : j / sz < xs.length
    · have h3 := (hF.M _ _ _ _ _).1 (h2 (j / sz) xs[j / sz] (List.getElem?_eq_getElem hj))
      rw [List.getElem?_eq_getElem hj, Option.bind_some, ← h3, List.getElem?_take, if_pos (Nat.mod_lt _ hF.pos), List.getElem?_drop, Nat.div_add_mod']
    · rw [List.getElem?_eq_none (l := xs) (by omega), Option.bind_none, List.getElem?_eq_none]
      rw [h1]
      have := (Nat.le_div_iff_mul_le hF.pos).1 (Nat.le_of_not_lt hj)
      exact this
  · rintro rfl
    refine ⟨flat_len hF.len xs, fun j x hx => (hF.M _ _ _ _ _).2 ?_⟩
    apply List.ext_getElem?
    intro k
    rw [List.getElem?_take]
    split
    · rename_i hk
      rw [List.getElem?_drop, flat_get hF.len hF.pos, Nat.add_comm, Nat.add_mul_div_right _ _ hF.pos, Nat.div_eq_of_lt hk, Nat.zero_add, hx, Option.bind_some, Nat.add_mul_mod_self_right, Nat.mod_eq_of_lt hk]
    · rename_i hk
      rw [List.getElem?_eq_none (by rw [hF.len]; omega)]
theorem row_F (hF : Flat dk enc sz) {w : World} {e b : Nat} {ok : Nat → Prop} {v : Value} {xs : List α} : dk.R e w b ok v xs ↔ (∀ k, v.ownBlock = some k → ok k) ∧ w.ownsRow b e sz v xs.length (xs.flatMap enc) := by
  constructor
  · rintro ⟨h1, inner, h2, h3⟩
    have := (reps_F hF).1 h3
    subst this
    rw [hF.hsz] at h2
    exact ⟨h1, h2⟩
  · rintro ⟨h1, h2⟩
    refine ⟨h1, _, ?_, (reps_F hF).2 rfl⟩
    rw [hF.hsz]
    exact h2
end
section
variable {P : Program} {N : Nat} {B : Base} {L L' : Sl} {its its' : List Item} {ps ps' : List (World → Prop)} {Q : Exit → Act → World → Prop} {D : Dm} {k : Nat} {ops : Array Oper} {rest : List Oper} {o : Oper} {d T n m c sz e bytes : Nat} {v v2 : Value} {x y z : Operand} {A : Option Addr} {α : Type} {dk : Kd α} {enc : α → List Value}
/-- x = append(x, l..), l a row of flat records that is only read. -/
theorem Jl.appF (hF : Flat dk enc sz) {xs zs : List α} {A2 : Option Addr} {c2 : Nat} (hw : wants ops L o = some true) (hop : o.op = .call { callee := .builtin .append, args := #[x, y], argTypes := #[T, T] }) (hd : o.dst = some d) (hN : Nat.blt d N = true) (hx : ev L x = some v) (hy : ev L y = some (.slice A2 m c2))
    (hT : ApT P T e sz bytes) (hm : m = zs.length) (hp : (fun w => dk.C w A2 zs.length zs) ∈ ps) (hn : OutAt (.row dk e 0 v xs) its its') (hl : (xs.length + zs.length) * bytes ≤ 140737488355328) (hl2 : xs.length + zs.length ≤ 9223372036854775807)
    (h : ∀ A c, (xs ++ zs).length ≤ c → Jl P N B D (k + 1) ops Q rest ((d, .slice A (xs ++ zs).length c) :: L) (.row dk e 0 (.slice A (xs ++ zs).length c) (xs ++ zs) :: its') ps) (hD : D.takes k = false := by rfl) (hEE : D.needs k = false := by rfl) : Jl P N B D k ops Q (o :: rest) L its ps := by
  subst hm
  obtain ⟨n, hn0, rfl⟩ := hn.at
  refine ⟨?_⟩
  intro a w hf hW
  obtain ⟨i, zz, i1, i2, i3, i4, i5⟩ := hT.inf
  have hC := hW.fact hp
  obtain ⟨A, g1, g2, g3⟩ := hW.beside hn0
  obtain ⟨q0, hown⟩ := (row_F hF).1 g1.1
  obtain ⟨v', w', e1, e2, e3, e4⟩ : ∃ v' w', (Builtin.append_ #[T, T] o.type #[v, .slice A2 zs.length c2]).run P w = .ok v' w' ∧ w'.ownsRow 0 e sz v' (xs.length + zs.length) (xs.flatMap enc ++ zs.flatMap enc) ∧ w.grownBy w' v.ownBlock ∧ (v'.ownBlock = v.ownBlock ∨ v'.ownBlock = some w.heap.size) := by
    cases A2 with
    | none =>
      obtain rfl : zs = [] := by
        rcases Nat.eq_zero_or_pos zs.length with h0 | h0
        · exact List.length_eq_zero_iff.1 h0
        · obtain ⟨ad, e, _⟩ := hC.2.2 h0
          cases e
      exact ⟨v, w, run_app_none 0 T o.type e i sz hT.und i1 v xs.length c2 (xs.flatMap enc) hown, by simpa using hown, ⟨rfl, rfl, rfl, Nat.le_refl _, fun _ _ _ => rfl⟩, .inl rfl⟩
    | some ad =>
      obtain ⟨v', w', e1, e2, e3, _, e4⟩ := run_append_own_at (P := P) (w := w) 0 T o.type e i zz sz bytes hT.und i1 i2 i3 i4 i5 hT.pos v xs.length _ hown ad zs.length c2 (zs.flatMap enc) (by rw [flat_len hF.len]) (fun j u hu => by
        rw [flat_get hF.len hF.pos, Option.bind_eq_some_iff] at hu
        obtain ⟨p, hz, hu⟩ := hu
        have hlt : j / sz < zs.length := (List.getElem?_eq_some_iff.1 hz).1
        obtain ⟨ad2, ha, hcell⟩ := hC.2.2 (Nat.lt_of_le_of_lt (Nat.zero_le _) hlt)
        injection ha with ha
        subst ha
        obtain ⟨cs, c1, c2, c3⟩ := hcell (j / sz) p hz
        have c2' := hF.K _ _ _ c2
        subst c2'
        have := c3 (j % sz) u hu
        rw [hF.hsz, Nat.div_add_mod' j sz] at this
        exact this) (fun u hu => by
        obtain ⟨p, _, hp⟩ := List.mem_flatMap.1 hu
        exact hF.one p u hp) (by simp only [maxLen]; omega) hl (Nat.zero_le _)
      exact ⟨v', w', e1, e2, e3, e4⟩
  have hown' : w'.ownsRow 0 e sz v' (xs ++ zs).length ((xs ++ zs).flatMap enc) := by rw [List.length_append, List.flatMap_append]; exact e2
  obtain ⟨A', c', rfl, hc'⟩ : ∃ A' c', v' = .slice A' (xs ++ zs).length c' ∧ (xs ++ zs).length ≤ c' := by
    rcases hown'.2 with ⟨rfl, h0⟩ | ⟨g, cap, cur, rfl, _, _, h7, _⟩
    · exact ⟨none, 0, by rw [h0], by rw [h0]; exact Nat.le_refl _⟩
    · exact ⟨_, cap, rfl, h7⟩
  have hAown : ∀ k, v.ownBlock = some k → A k := q0
  have haft : Aft A w w' := ⟨e3.os, e3.tape, e3.output, e3.size, fun k hk hnA => e3.block k hk (fun e => hnA (hAown k e.symm))⟩
  have hblt : ∀ k, (Value.slice A' (xs ++ zs).length c').ownBlock = some k → k < w'.heap.size := fun k hk => by
    rcases hown'.2 with ⟨e0, _⟩ | ⟨g, cap, cur, e0, _, h6, _⟩
    · rw [e0] at hk; cases hk
    · rw [e0] at hk
      obtain rfl : g = k := by simpa [Value.ownBlock] using hk
      exact blk_lt h6
  unfold runG
  rw [if_neg (by rw [hD]; simp), if_pos (hf.wants hw)]
  have hrun : (execOp a.eval o).run P w = .ok (.value (.slice A' (xs ++ zs).length c')) w' := by
    unfold execOp; rw [hop]
    simp only [List.length_append] at e1 ⊢
    simp [resolve, invoke, builtin, hf.ev hx, hf.ev hy, e1]
  unfold Oper.wp
  rw [hrun, Oper.upon_value, hd]
  refine ⟨fun h' => (by rw [hEE] at h'; cases h'), ?_⟩
  exact h A' c' hc' _ _ (hf.put hN _) (g3 w' _ (fun k => (Value.slice A' (xs ++ zs).length c').ownBlock = some k) ⟨(row_F hF).2 ⟨fun k hk => hk, hown'⟩, hblt⟩ (fun k hk hlt => by
    rcases e4 with e4 | e4
    · exact hAown k (e4 ▸ hk)
    · rw [e4] at hk
      injection hk with hk
      omega) haft)
/-- A literal of one record. -/
theorem Jl.litS {us zs : List Value} (hw : wants ops L o = some true) (hop : o.op = .buildSlice T 1 #[(0, x)]) (hd : o.dst = some d) (hN : Nat.blt d N = true) (hx : ev L x = some (.agg us.toArray)) (hT : ElT P T e sz) (hz : ZeroT P e zs) (hs : Nat.ble (1 * sz) 1024 = true) (h0 : Nat.blt 0 sz = true)
    (hf : Instr.fill (fun i => some (i * sz, sz)) ((Array.range sz).map (fun j => zs[j % zs.length]?.getD default)) [(0, .agg us.toArray)] = some us.toArray)
    (h : ∀ g, Jl P N B D (k + 1) ops Q rest ((d, .slice (some ⟨g, 0, none⟩) 1 1) :: L) (.box g e us :: its) ps) (hD : D.takes k = false := by rfl) : Jl P N B D k ops Q (o :: rest) L its ps :=
  Jl.e (fun g : Nat => .slice (some ⟨g, 0, none⟩) 1 1) (fun g => .box g e us :: its) (fun _ => ps) hw hd hN (fun a w hfr hW => by
    have hs' := Nat.le_of_ble_eq_true hs
    have h0' : 0 < sz := Nat.le_of_ble_eq_true h0
    have hTo := hT.out
    unfold elT at hTo
    obtain ⟨z, hz1, hz2⟩ := run_zeroT (w := w) hz.out
    have hzc : z.cells = zs.toArray := by apply Array.toList_inj.1; rw [hz2]
    cases hu : P.underlying T with
    | none => simp [hu] at hTo
    | some dd =>
      cases dd <;> simp [hu] at hTo
      rename_i e2
      obtain ⟨j, hj, rfl, hj1⟩ := hTo
      refine ⟨w.heap.size, w.alloc (.cells us.toArray e2), ?_, fun _ => below_alloc (Below.refl _ _) _, hW.alloc e2 us.toArray⟩
      unfold execOp; rw [hop]
      simp only [Instr.buildSlice, run_underlying hu, sizeOf, typeInfo, hj, hz1, newRow, hfr.ev hx, Array.toList_map, List.map_cons, List.map_nil]
      simp [run_underlying hu, sizeOf, typeInfo, hj, hz1, hzc, newRow, hfr.ev hx]
      rw [if_neg (by rw [hj1]; omega), if_neg (by rw [hj1]; omega), hj1, hf]
      simp) h hD
namespace Y
end Y
end
end Go.Proofs.YtkglpfdoefdhdaaW.SL

namespace Go.Proofs.YtkglpfdoefdhdaaW.SL
open Go Go.RowKit Go.Proofs Go.Proofs.YtkglpfdoefdhdaaW.PrintWords
set_option linter.unusedSimpArgs false
set_option linter.unusedVariables false
section
variable {P : Program} {N : Nat} {B : Base} {L L' : Sl} {its its' : List Item} {ps ps' : List (World → Prop)} {Q : Exit → Act → World → Prop} {D : Dm} {k : Nat} {ops : Array Oper} {rest : List Oper} {o : Oper} {d T n m c sz e bytes g off nd cd : Nat} {v v2 : Value} {x y z : Operand} {A : Option Addr} {α : Type} {dk : Kd α} {enc : α → List Value} {cs us : List Value}
namespace Y
/-- slices.overlaps of two rows in two blocks. -/
theorem apart {f : FuncId} {fn : Func} {tS tR : TypeId} {la ca lb cb off2 : Nat} {g2 T' T2 : Nat} {ts : Array TypeId} (hop : o.op = .call { callee := .value (.func f), args := #[x, y], argTypes := ts })
    (hf : P.funcs[f]? = some fn) (hname : (fn.name == "runtime.NumGoroutine") = false) (hb : fn.body.isNone = true) (hn : Extern.findNext fn = none) (he : Extern.find fn = some (Extern.SlicesOverlaps.overlaps #[tS, tS] #[tR])) (hT : ElT P tS e sz)
    (hx : ev L x = some (.slice (some ⟨g, off, none⟩) la ca)) (hy : ev L y = some (.slice (some ⟨g2, off2, none⟩) lb cb)) (hne : g ≠ g2) (h2 : Item.box g2 T2 cs ∈ its) (h2l : cs.length ≠ 0) (h1 : (fun W : World => W.heap[g]? = some (.cells us.toArray T' (0, 0))) ∈ ps) : Yd P N B o (.bool false) L its ps := .mk <| fun a w hfr hW => by
  have hg2 := Box_at hW h2
  have hg1 := hW.fact h1
  have hTo := hT.out
  unfold elT at hTo
  cases hu : P.underlying tS with
  | none => simp [hu] at hTo
  | some dd =>
    cases dd <;> simp [hu] at hTo
    rename_i e2
    obtain ⟨j, hj, rfl, rfl⟩ := hTo
    have hov := Lib.run_overlaps_apart (P := P) w tS tR e2 hu j.size (fun w => by simp [sizeOf, typeInfo, hj]) ⟨g, off, none⟩ ⟨g2, off2, none⟩ la ca lb cb hne T' T2 us.length cs.length (by simp [World.shape?, hg1]) (by simp [World.shape?, hg2]) h2l (by simp [World.frozen?, hg1]) (by simp [World.frozen?, hg1])
    have h3 : (callFunc f #[.slice (some ⟨g, off, none⟩) la ca, .slice (some ⟨g2, off2, none⟩) lb cb]).run P w = .ok (.value (.bool false)) w := by
      rw [run_callFunc_extern hf hname hb hn he, hov]; rfl
    unfold execOp; rw [hop]
    have e0 : a.eval (.func f) = .func (.func f) #[] #[] := rfl
    simp [resolve, e0, Deferred.ofValue, invoke, hfr.ev hx, hfr.ev hy, h3]
end Y
end
end Go.Proofs.YtkglpfdoefdhdaaW.SL

namespace Go.Proofs.YtkglpfdoefdhdaaW.SL
open Go Go.RowKit Go.Proofs.YtkglpfdoefdhdaaW.PrintWords
set_option linter.unusedSimpArgs false
set_option linter.unusedVariables false
section
variable {P : Program} {N : Nat} {B : Base} {L : Sl} {its its' : List Item} {ps : List (World → Prop)} {Q : Exit → Act → World → Prop} {D : Dm} {k : Nat} {ops : Array Oper} {rest : List Oper} {o : Oper} {T T' off g : Nat} {x y : Operand} {cs us : List Value}
/-- The value of an element of one cell. -/
def hd1 (us : List Value) : Value := us.headD undef
theorem hd1_eq {us : List Value} (h : us.length = 1) : us = [hd1 us] := by
  cases us with
  | nil => cases h
  | cons a l => cases l with
    | nil => rfl
    | cons b l => simp at h
theorem Y.loadE1 (hop : o.op = .load T x) (hx : ev L x = some (.pointer (some ⟨g, off, none⟩))) (hT : ScT P T) (hn : Item.box g T' cs ∈ its) (hu : (cs.drop off).take 1 = us) (hl : us.length = 1) : Yd P N B o (hd1 us) L its ps := .mk <| fun a w hf hW => by
  have hg := Box_at hW hn
  have h1 : w.cell? ⟨g, off, none⟩ = some (hd1 us) := by
    rw [cell_of_row w g off cs.toArray T' (0, 0) hg]
    have := hd1_eq hl
    rw [this] at hu
    have h2 : ((cs.drop off).take 1)[0]? = some (hd1 us) := by rw [hu]; rfl
    rw [List.getElem?_take, if_pos (by omega), List.getElem?_drop] at h2
    simpa using h2
  generalize hd1 us = v at h1 ⊢
  unfold execOp; rw [hop]; simp [hf.ev hx, run_load_one hT.out h1]
theorem Jl.storeB1 (hw : wants ops L o = some true) (hop : o.op = .store T x y) (hd : o.dst = none) (hx : ev L x = some (.pointer (some ⟨g, off, none⟩))) (hy : ev L y = some (hd1 us)) (hT : SzT P T 1) (hn : SetAt (.box g T' cs) (.box g T' (wr cs off us)) its its') (hm : us.length = 1) (hl : off + us.length ≤ cs.length) (h1 : ∀ u ∈ us, u.oneCell' = true)
    (h : Jl P N B D (k + 1) ops Q rest L its' ps) (hD : D.takes k = false := by rfl) (hE : D.needs k = false := by rfl) : Jl P N B D k ops Q (o :: rest) L its ps := by
  have hus := hd1_eq hm
  generalize hd1 us = v at hy hus
  subst hus
  have h1' : v.oneCell' = true := h1 v List.mem_cons_self
  exact Jl.un its' hw hd (fun a w hf hW => by
    obtain ⟨n, hn0, rfl⟩ := hn.at
    have hg := Box_at hW (List.mem_of_getElem? hn0)
    have hv : v.cells.toList = [v] := by cases v <;> first | rfl | cases h1'
    obtain ⟨w', e1, e2, e3⟩ := store_run (P := P) (us := [v]) hop (hf.ev hx) (hf.ev hy) hv hT.out hg hl h1
    exact ⟨w', e1, hW.upd hn0 (fun A hA hA0 => ⟨A, ⟨e2, hA.2⟩, fun k hk _ => hk, e3.os, e3.tape, e3.output, e3.size, fun k hk hn' => e3.block k hk (fun e => hn' ((hA.2 k).2 e))⟩)⟩) h hD hE
/-- A cell that is only read. -/
theorem Y.loadF1 {ad : Addr} {v : Value} (hop : o.op = .load T x) (hx : ev L x = some (.pointer (some ad))) (hT : ScT P T) (hp : (fun w => Cells w ad us) ∈ ps) (hv : us[0]? = some v) : Yd P N B o v L its ps := .mk <| fun a w hf hW => by
  have h1 := (hW.fact hp) 0 v hv
  have e0 : ad.add 0 = ad := by simp [Addr.add]
  rw [e0] at h1
  unfold execOp; rw [hop]; simp [hf.ev hx, run_load_one hT.out h1]
/-- A closure over two variables. -/
theorem Y.mkFn2 {f : FuncId} {u v : Value} (hop : o.op = .makeFunc (.func f) #[] #[x, y]) (hx : ev L x = some u) (hy : ev L y = some v) : Yd P N B o (.func (.func f) #[] #[u, v]) L its ps := .mk <| fun a w hf hW => by
  unfold execOp; rw [hop]; simp [Instr.makeFunc, hf.ev hx, hf.ev hy]
end
end Go.Proofs.YtkglpfdoefdhdaaW.SL

namespace Go.Proofs.YtkglpfdoefdhdaaW.Pl
open Go.RowKit Go.Proofs.YtkglpfdoefdhdaaW.PrintWords Classical

theorem w64 {x : Int} (h : -9223372036854775808 ≤ x ∧ x ≤ 9223372036854775807) : wrap64 x = x := by unfold wrap64; omega
theorem mul_b {a b A B : Int} (h0 : 0 ≤ a) (h1 : a ≤ A) (k0 : 0 ≤ b) (k1 : b ≤ B) : 0 ≤ a * b ∧ a * b ≤ A * B :=
  ⟨Int.mul_nonneg h0 k0, Int.mul_le_mul h1 k1 k0 (by omega)⟩

/-- A loop that fills a list place by place. -/
theorem fill_gen {α β : Type} (l : List α) (conv : α → β) (loop : Nat → List β → Int → Option (List β))
    (hstep : ∀ k (acc : List β) (i : Nat) (hi : i < l.length), acc.length = l.length → loop (k + 1) acc (i : Int) = loop k (acc.set i (conv l[i])) ((i + 1 : Nat) : Int))
    (hend : ∀ k (acc : List β), loop (k + 1) acc (l.length : Int) = some acc) (k : Nat) (hk : l.length < k) (acc : List β) (hacc : acc.length = l.length) : loop k acc 0 = some (l.map conv) := by
  have main : ∀ d (i : Nat) (k : Nat) (acc : List β), l.length - i = d → i ≤ l.length → d < k → acc.length = l.length → (∀ j (hj : j < i) (h2 : j < acc.length) (h3 : j < l.length), acc[j] = conv l[j]) → loop k acc (i : Int) = some (l.map conv) := by
    intro d
    induction d with
    | zero =>
      intro i k acc hd hi hk ha hj
      obtain ⟨k, rfl⟩ : ∃ m, k = m + 1 := ⟨k - 1, by omega⟩
      have : i = l.length := by omega
      subst this
      rw [hend]
      congr 1
      apply List.ext_getElem (by simp [ha])
      intro j h1 h2
      simp only [List.getElem_map]
      exact hj j (by omega) h1 (by omega)
    | succ d ih =>
      intro i k acc hd hi hk ha hj
      obtain ⟨k, rfl⟩ : ∃ m, k = m + 1 := ⟨k - 1, by omega⟩
      rw [hstep k acc i (by omega) ha]
      refine ih (i + 1) k _ (by omega) (by omega) (by omega) (by simp [ha]) ?_
      intro j h1 h2 h3
      by_cases e : j = i
      · subst e; simp
      · rw [List.getElem_set_ne (by omega)]
        exact hj j (by omega) (by simpa using h2) h3
  exact main l.length 0 k acc (by omega) (by omega) hk hacc (fun j hj => by omega)

/-- A place of a list (a word that simp leaves alone). -/
def nth {α : Type} (l : List α) (i : Nat) (z : α) : α := l.getD i z
theorem nth_get {α : Type} {l : List α} {i : Nat} {z : α} (h : i < l.length) : nth l i z = l[i] := by
  unfold nth; rw [List.getD_eq_getElem?_getD, List.getElem?_eq_getElem h]; rfl
theorem nth_mem {α : Type} {l : List α} {i : Nat} {z : α} (h : i < l.length) : nth l i z ∈ l := by rw [nth_get h]; exact List.getElem_mem h
theorem all_iff_nth {α : Type} {l : List α} {p : α → Bool} (z : α) : l.all p = true ↔ ∀ i, i < l.length → p (nth l i z) = true := by
  rw [List.all_eq_true]
  constructor
  · intro h i hi
    rw [nth_get hi]; exact h _ (List.getElem_mem hi)
  · intro h x hx
    obtain ⟨i, hi, rfl⟩ := List.getElem_of_mem hx
    have := h i hi
    rwa [nth_get hi] at this
theorem range_all {n : Nat} {p : Nat → Bool} : (List.range n).all p = true ↔ ∀ i, i < n → p i = true := by
  rw [List.all_eq_true]; simp
/-! ### with 'from some number of rounds on' -/
theorem Ev.succ {α : Type} {g : Nat → Option α} {r : α} (h : Ev (fun k => g (k + 1)) r) : Ev g r := Ev.step (fun _ => rfl) h
theorem Ev.c {α : Type} {x : Option α} {r : α} (h : x = some r) : Ev (fun _ => x) r := ⟨0, fun _ _ => h⟩
theorem scanE {γ : Type} (n : Nat) (ok : Nat → Bool) (e bad : γ) (loop : Nat → Int → Option γ)
    (hs : ∀ (i : Nat) (r : γ), i < n → ok i = true → Ev (fun k => loop k ((i + 1 : Nat) : Int)) r → Ev (fun k => loop k (i : Int)) r)
    (hb : ∀ (i : Nat), i < n → ok i = false → Ev (fun k => loop k (i : Int)) bad)
    (he : Ev (fun k => loop k (n : Int)) e) : Ev (fun k => loop k 0) (if (List.range n).all ok = true then e else bad) := by
  have main : ∀ d (i : Nat), n - i = d → i ≤ n → Ev (fun k => loop k (i : Int)) (if (∀ j, i ≤ j → j < n → ok j = true) then e else bad) := by
    intro d
    induction d with
    | zero =>
      intro i hd hi
      have : i = n := by omega
      subst this
      rw [if_pos (fun j h1 h2 => by omega)]; exact he
    | succ d ih =>
      intro i hd hi
      cases ho : ok i with
      | true =>
        refine hs i _ (by omega) ho ?_
        have := ih (i + 1) (by omega) (by omega)
        by_cases hall : ∀ j, i ≤ j → j < n → ok j = true
        · rw [if_pos hall]; rwa [if_pos (fun j h1 h2 => hall j (by omega) h2)] at this
        · rw [if_neg hall]; rwa [if_neg (fun h => hall (fun j h1 h2 => by
            by_cases e : j = i
            · subst e; exact ho
            · exact h j (by omega) h2))] at this
      | false =>
        rw [if_neg (fun h => by have := h i (by omega) (by omega); rw [ho] at this; cases this)]
        exact hb i (by omega) ho
  have := main n 0 (by omega) (by omega)
  by_cases hall : ∀ j, 0 ≤ j → j < n → ok j = true
  · rw [if_pos hall] at this
    rw [if_pos (List.all_eq_true.2 (fun j hj => hall j (by omega) (by simpa using hj)))]
    exact this
  · rw [if_neg hall] at this
    rw [if_neg (fun h => hall (fun j _ h2 => List.all_eq_true.1 h j (by simpa using h2)))]
    exact this
/-- One step of a store, beside what follows. -/
theorem bindLen {α γ : Type} {n : Nat} (a : List α) (F : List α → Nat → Option γ) (G : List α → Nat → Option γ) (h : a.length = n) (hF : ∀ a' : List α, a'.length = n → ∃ b : List α, b.length = n ∧ ∀ k, F a' k = G b k) : ∃ b : List α, b.length = n ∧ ∀ k, ((some a).bind fun y => F y k) = G b k := hF a h
theorem stepI (n : Nat) (h : n < 4611686018427387904) : wrap64 ((n : Int) + 1) = ((n + 1 : Nat) : Int) := by
  rw [w64 (by omega)]
  rfl
theorem predI (n : Nat) (h : 1 ≤ n ∧ n < 4611686018427387904) : wrap64 ((n : Int) - 1) = ((n - 1 : Nat) : Int) := by
  rw [w64 (by omega)]
  omega
end Go.Proofs.YtkglpfdoefdhdaaW.Pl

