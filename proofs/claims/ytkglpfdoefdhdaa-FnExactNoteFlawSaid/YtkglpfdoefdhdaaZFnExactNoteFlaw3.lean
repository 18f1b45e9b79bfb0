import Derived.Test.YtkglpfdoefdhdaaProg
import Derived.Below
import Derived.Deep.Draws
import Derived.Deep.AppendLies
import Derived.Maps.AppendAt
import Derived.OwnWalk
import Derived.Laws.BytesArg
import Derived.Laws.MakeOwn
import Derived.Laws.OwnMore
import Derived.Deep.OwnRows
import Derived.Tactics
import Derived.Lib.ConvBytes
import Derived.Laws.Slices
import Derived.WalkKit
import Derived.KernelRfl
import Derived.RowKit3
import Derived.Deep.LoopGhost
import Derived.Deep.QuietTactic
import Derived.BigQuiet
import Derived.WideLaws
import Derived.Deep.DeepCutAuto
import Derived.Deep.CutBlock
import Derived.Deep.RegionHeld3
import Derived.Laws.Rows
import Derived.Lib.AppendStr
import Derived.ArgAppend
import Derived.Laws.IdiomCopy
import Derived.OrdersHeld
import Derived.Laws.BitsLemmas
import Derived.RowKit
import Derived.Deep.Slices
import Derived.ChangeArms
import Derived.DataReads
import Derived.Carry
import Derived.Laws.Tables
import Derived.Lib.OthersKept
import Derived.Shelf.SortM.Plain
import Derived.Shelf.SortM.SortNone
import Derived.Shelf.SlicesG.CompactI
import Derived.Lib.Overlaps
import Derived.Lib.AppendZerosOnto
import Derived.Test.YtkglpfdoefdhdaaZFnExactNoteFlaw2
namespace Go.Proofs.Ytkglpfdoefdhdaa.Q
open Go.RowKit Go.Proofs.YtkglpfdoefdhdaaW.PrintWords Go.Proofs.YtkglpfdoefdhdaaW.PrintLast Go.Proofs.YtkglpfdoefdhdaaW.PrintMore
attribute [local go_sem] max2_int min2_int max_two min_two max_three min_three max_four min_four
set_option linter.unusedVariables false
set_option linter.unusedSimpArgs false



def errW : Option Int → Value
 | none => .nilIface
 | some c => .iface 0 (.int .i64 c)
theorem errW_none : errW none = .nilIface := rfl
theorem errW_some (c : Int) : errW (some c) = .iface 0 (.int .i64 c) := rfl

theorem info3 : (Try.prog.info? 3).map (fun i => (i.zero, i.size, i.bytes)) = some (some (.int .i64 0), 1, 8) := by kernel_rfl
theorem info35 : (Try.prog.info? 35).map (fun i => (i.zero, i.size, i.bytes)) = some (some (.agg #[(.int .i64 0), (.int .i64 0), (.int .i64 0), (.int .i64 0)]), 4, 32) := by kernel_rfl
theorem info76 : (Try.prog.info? 76).map (fun i => (i.zero, i.size, i.bytes)) = some (some (.agg #[(.int .i64 0), (.int .i64 0), (.int .i64 0), (.int .i64 0)]), 4, 32) := by kernel_rfl
/-! #### struct type 46 -/
structure S46 where
 f0 : Int
 f1 : Int
 f2 : (List Int)
def k46 : Kd S46 := Kd.iso (Kd.pair (Kd.int .i64) (Kd.pair (Kd.int .i64) (Kd.slice 3 (Kd.int .i64)))) (fun x : S46 => (x.f0, x.f1, x.f2))
theorem k46_open {w : World} {x : S46} {cs : List Value} (h : k46.K w x cs) : ∃ A2 c2, cs = [.int .i64 x.f0, .int .i64 x.f1, .slice A2 x.f2.length c2] ∧ x.f2.length ≤ c2 ∧ (Kd.int .i64).C w A2 x.f2.length x.f2 := by
 obtain ⟨_, _, rfl, rfl, ⟨_, _, rfl, rfl, ⟨A2, c2, rfl, l2, g2⟩⟩⟩ := h
 exact ⟨A2, c2, rfl, l2, g2⟩
/-! #### struct type 48 -/
structure S48 where
 f0 : Int
 f1 : Int
 f2 : Int
 f3 : Int
def z48 : S48 := ⟨(0 : Int), (0 : Int), (0 : Int), (0 : Int)⟩
def k48 : Kd S48 := Kd.iso (Kd.pair (Kd.int .i64) (Kd.pair (Kd.int .i64) (Kd.pair (Kd.int .i64) (Kd.int .i64)))) (fun x : S48 => (x.f0, x.f1, x.f2, x.f3))
theorem k48_open {w : World} {x : S48} {cs : List Value} (h : k48.K w x cs) : cs = [.int .i64 x.f0, .int .i64 x.f1, .int .i64 x.f2, .int .i64 x.f3] := by
 obtain ⟨_, _, rfl, rfl, ⟨_, _, rfl, rfl, ⟨_, _, rfl, rfl, rfl⟩⟩⟩ := h
 exact rfl
def rd_T48 (xs : List S48) (i : Int) : S48 := xs.getD i.toNat z48
theorem at_T48 {w : World} {A : Option Addr} {n : Nat} {xs : List S48} (h : Kd.C k48 w A n xs) (i : Int) (h0 : 0 ≤ i) (h1 : i < n) : ∃ ad , A = some ad ∧ w.cell? (ad.add (i.toNat * 4)) = some (.int .i64 (rd_T48 xs i).f0) ∧ w.cell? ⟨(ad.add (i.toNat * 4)).block, (ad.add (i.toNat * 4)).off + 1, none⟩ = some (.int .i64 (rd_T48 xs i).f1) ∧ w.cell? ⟨(ad.add (i.toNat * 4)).block, (ad.add (i.toNat * 4)).off + 2, none⟩ = some (.int .i64 (rd_T48 xs i).f2) ∧ w.cell? ⟨(ad.add (i.toNat * 4)).block, (ad.add (i.toNat * 4)).off + 3, none⟩ = some (.int .i64 (rd_T48 xs i).f3) := by
 obtain ⟨ad, c, e, _, hK, hc0⟩ := Kd.C_get h z48 i h0 h1
 have hc : ∀ j u, c[j]? = some u → w.cell? (ad.add (i.toNat * 4 + j)) = some u := hc0
 obtain rfl := k48_open hK
 exact ⟨ad, e, hc 0 _ rfl, by rw [← add_field _ _ 1 (by omega)]; exact hc 1 _ rfl, by rw [← add_field _ _ 2 (by omega)]; exact hc 2 _ rfl, by rw [← add_field _ _ 3 (by omega)]; exact hc 3 _ rfl⟩

/-! #### struct type 76 -/
structure S76 where
 f0 : Int
 f1 : Int
 f2 : Int
 f3 : Int
def z76 : S76 := ⟨(0 : Int), (0 : Int), (0 : Int), (0 : Int)⟩
def k76 : Kd S76 := Kd.iso (Kd.pair (Kd.int .i64) (Kd.pair (Kd.int .i64) (Kd.pair (Kd.int .i64) (Kd.int .i64)))) (fun x : S76 => (x.f0, x.f1, x.f2, x.f3))
theorem k76_open {w : World} {x : S76} {cs : List Value} (h : k76.K w x cs) : cs = [.int .i64 x.f0, .int .i64 x.f1, .int .i64 x.f2, .int .i64 x.f3] := by
 obtain ⟨_, _, rfl, rfl, ⟨_, _, rfl, rfl, ⟨_, _, rfl, rfl, rfl⟩⟩⟩ := h
 exact rfl
theorem k76_openM {w : World} {base : Nat} {ok : Nat → Prop} {x : S76} {cs : List Value} (h : k76.M w base ok x cs) : cs = [.int .i64 x.f0, .int .i64 x.f1, .int .i64 x.f2, .int .i64 x.f3] := by
 obtain ⟨_, _, rfl, rfl, ⟨_, _, rfl, rfl, ⟨_, _, rfl, rfl, rfl⟩⟩⟩ := h
 exact rfl
theorem k76_mk (w : World) (x : S76)  : k76.K w x [.int .i64 x.f0, .int .i64 x.f1, .int .i64 x.f2, .int .i64 x.f3] := ⟨[.int .i64 x.f0], [.int .i64 x.f1, .int .i64 x.f2, .int .i64 x.f3], rfl, rfl, ⟨[.int .i64 x.f1], [.int .i64 x.f2, .int .i64 x.f3], rfl, rfl, ⟨[.int .i64 x.f2], [.int .i64 x.f3], rfl, rfl, rfl⟩⟩⟩
theorem k76_mkM (w : World) (base : Nat) (ok : Nat → Prop) (x : S76)  : k76.M w base ok x [.int .i64 x.f0, .int .i64 x.f1, .int .i64 x.f2, .int .i64 x.f3] := ⟨[.int .i64 x.f0], [.int .i64 x.f1, .int .i64 x.f2, .int .i64 x.f3], rfl, rfl, ⟨[.int .i64 x.f1], [.int .i64 x.f2, .int .i64 x.f3], rfl, rfl, ⟨[.int .i64 x.f2], [.int .i64 x.f3], rfl, rfl, rfl⟩⟩⟩
/-! #### struct type 35 -/
structure S35 where
 f0 : Int
 f1 : Int
 f2 : Int
 f3 : Int
def z35 : S35 := ⟨(0 : Int), (0 : Int), (0 : Int), (0 : Int)⟩
def k35 : Kd S35 := Kd.iso (Kd.pair (Kd.int .i64) (Kd.pair (Kd.int .i64) (Kd.pair (Kd.int .i64) (Kd.int .i64)))) (fun x : S35 => (x.f0, x.f1, x.f2, x.f3))
theorem k35_open {w : World} {x : S35} {cs : List Value} (h : k35.K w x cs) : cs = [.int .i64 x.f0, .int .i64 x.f1, .int .i64 x.f2, .int .i64 x.f3] := by
 obtain ⟨_, _, rfl, rfl, ⟨_, _, rfl, rfl, ⟨_, _, rfl, rfl, rfl⟩⟩⟩ := h
 exact rfl
theorem k35_openM {w : World} {base : Nat} {ok : Nat → Prop} {x : S35} {cs : List Value} (h : k35.M w base ok x cs) : cs = [.int .i64 x.f0, .int .i64 x.f1, .int .i64 x.f2, .int .i64 x.f3] := by
 obtain ⟨_, _, rfl, rfl, ⟨_, _, rfl, rfl, ⟨_, _, rfl, rfl, rfl⟩⟩⟩ := h
 exact rfl
theorem k35_mk (w : World) (x : S35)  : k35.K w x [.int .i64 x.f0, .int .i64 x.f1, .int .i64 x.f2, .int .i64 x.f3] := ⟨[.int .i64 x.f0], [.int .i64 x.f1, .int .i64 x.f2, .int .i64 x.f3], rfl, rfl, ⟨[.int .i64 x.f1], [.int .i64 x.f2, .int .i64 x.f3], rfl, rfl, ⟨[.int .i64 x.f2], [.int .i64 x.f3], rfl, rfl, rfl⟩⟩⟩
theorem k35_mkM (w : World) (base : Nat) (ok : Nat → Prop) (x : S35)  : k35.M w base ok x [.int .i64 x.f0, .int .i64 x.f1, .int .i64 x.f2, .int .i64 x.f3] := ⟨[.int .i64 x.f0], [.int .i64 x.f1, .int .i64 x.f2, .int .i64 x.f3], rfl, rfl, ⟨[.int .i64 x.f1], [.int .i64 x.f2, .int .i64 x.f3], rfl, rfl, ⟨[.int .i64 x.f2], [.int .i64 x.f3], rfl, rfl, rfl⟩⟩⟩
def rd_T35 (xs : List S35) (i : Int) : S35 := xs.getD i.toNat z35
theorem at_T35 {w : World} {A : Option Addr} {n : Nat} {xs : List S35} (h : Kd.C k35 w A n xs) (i : Int) (h0 : 0 ≤ i) (h1 : i < n) : ∃ ad , A = some ad ∧ w.cell? (ad.add (i.toNat * 4)) = some (.int .i64 (rd_T35 xs i).f0) ∧ w.cell? ⟨(ad.add (i.toNat * 4)).block, (ad.add (i.toNat * 4)).off + 1, none⟩ = some (.int .i64 (rd_T35 xs i).f1) ∧ w.cell? ⟨(ad.add (i.toNat * 4)).block, (ad.add (i.toNat * 4)).off + 2, none⟩ = some (.int .i64 (rd_T35 xs i).f2) ∧ w.cell? ⟨(ad.add (i.toNat * 4)).block, (ad.add (i.toNat * 4)).off + 3, none⟩ = some (.int .i64 (rd_T35 xs i).f3) := by
 obtain ⟨ad, c, e, _, hK, hc0⟩ := Kd.C_get h z35 i h0 h1
 have hc : ∀ j u, c[j]? = some u → w.cell? (ad.add (i.toNat * 4 + j)) = some u := hc0
 obtain rfl := k35_open hK
 exact ⟨ad, e, hc 0 _ rfl, by rw [← add_field _ _ 1 (by omega)]; exact hc 1 _ rfl, by rw [← add_field _ _ 2 (by omega)]; exact hc 2 _ rfl, by rw [← add_field _ _ 3 (by omega)]; exact hc 3 _ rfl⟩

end Go.Proofs.Ytkglpfdoefdhdaa.Q

namespace Go.Proofs.YtkglpfdoefdhdaaW.Open
open Go.ChangeShapes Go.WideShapes Go.Deep Go.Proofs.YtkglpfdoefdhdaaW.PrintWords

/-- Whatever reads as data of type t lies in memory as a value of kind d that is good. -/
structure Opn {α : Type} (P : Program) (d : Kd α) (t : TypeId) (good : α → Prop) : Prop where
  out : ∀ {H : Type} {enc : TypeId × Value → H} {w : World} {base : Nat} {spare : Nat → Bool} {held : Bool} {fuel : Nat} {cs : List Value} {x : DataW H × List MemPlace},
    DataW.trod enc P w base spare held fuel t cs = some x → ∃ a, d.K w a cs ∧ good a

/-- One for each place: a list of them. -/
theorem list_of {α : Type} {Q : Nat → α → Prop} : ∀ {len : Nat}, (∀ i, i < len → ∃ p : α, Q i p) → ∃ l : List α, l.length = len ∧ ∀ i p, l[i]? = some p → Q i p
  | 0, _ => ⟨[], rfl, by simp⟩
  | n + 1, h => by
    obtain ⟨l, hl1, hl2⟩ := list_of (len := n) (fun i hi => h i (by omega))
    obtain ⟨p, hp⟩ := h n (by omega)
    refine ⟨l ++ [p], by simp [hl1], fun i q hq => ?_⟩
    by_cases hil : i < n
    · rw [List.getElem?_append_left (by omega)] at hq
      exact hl2 i q hq
    · have hin : i = n := by
        have := (List.getElem?_eq_some_iff.1 hq).1
        simp [hl1] at this
        omega
      subst hin
      rw [List.getElem?_append_right (by omega)] at hq
      simp [hl1] at hq
      subst hq
      exact hp

section
variable {P : Program}
theorem Opn.int {t : TypeId} {k : IntKind} (ht : P.underlying t = some (.int k)) : Opn P (Kd.int k) t (fun n => (Lit.int k n).wf = true) := by
  constructor; intro H enc w base spare held fuel cs x h
  cases fuel with
  | zero => simp [DataW.trod] at h
  | succ m =>
    unfold DataW.trod at h
    rw [ht] at h
    split at h <;> simp_all
    exact ⟨_, rfl, by simp_all⟩
theorem Opn.bool {t : TypeId} (ht : P.underlying t = some .bool) : Opn P Kd.bool t (fun _ => True) := by
  constructor; intro H enc w base spare held fuel cs x h
  cases fuel with
  | zero => simp [DataW.trod] at h
  | succ m =>
    unfold DataW.trod at h
    rw [ht] at h
    split at h
    all_goals first | exact ⟨_, rfl, trivial⟩ | simp_all
theorem Opn.slice {α : Type} {d : Kd α} {t e : TypeId} {g : α → Prop} (ht : P.underlying t = some (.slice e)) {n0 : Nat} (hc0 : P.cellsOf e = n0) (hs0 : d.sz = n0) (he : Opn P d e g) :
    Opn P (Kd.slice e d) t (fun l => l.length ≤ maxLen ∧ ∀ x ∈ l, g x) := by
  have hc : P.cellsOf e = d.sz := hc0.trans hs0.symm
  constructor; intro H enc w base spare held fuel cs x h
  rcases open_slice ht h with ⟨rfl, _⟩ | ⟨a, len, cap, m, n, D, Pl, rfl, _, hl, hm, hmm, _, hi⟩
  · exact ⟨[], ⟨none, 0, rfl, Nat.le_refl _, rfl, by simp, fun h => absurd h (by simp)⟩, by simp, by simp⟩
  · have hlm : len ≤ m := by rw [hmm]; split <;> omega
    have hone : ∀ i, i < len → ∃ p : α, g p ∧ ∃ c, c.length = d.sz ∧ d.K w p c ∧ ∀ j u, c[j]? = some u → w.cell? (a.add (i * d.sz + j)) = some u := by
      intro i hil
      obtain ⟨cs', hcs, htr⟩ := hi i (by omega)
      obtain ⟨p, hp, hg⟩ := he.out htr
      obtain ⟨_, hlen, hat⟩ := World.cells?_some hcs
      refine ⟨p, hg, cs', hlen.trans hc, hp, fun j u hj => ?_⟩
      have hjl : j < P.cellsOf e := by have := (List.getElem?_eq_some_iff.1 hj).1; omega
      have := hat j hjl
      rw [hc] at this
      rw [← Go.Deep.add_add, this, hj]
    have hall := list_of hone
    obtain ⟨l, rfl, hl2⟩ := hall
    refine ⟨l, ⟨some a, cap, rfl, hl, rfl, by unfold maxLen at hm; omega, fun _ => ⟨a, rfl, fun j p hj => (hl2 j p hj).2⟩⟩, by omega, fun x hx => ?_⟩
    obtain ⟨i, hi, rfl⟩ := List.getElem_of_mem hx
    exact (hl2 i _ (List.getElem?_eq_getElem hi)).1
theorem Opn.iso {α β : Type} {d : Kd α} {t : TypeId} {g : α → Prop} (f : β → α) (b : α → β) (hfb : ∀ a, f (b a) = a) (h : Opn P d t g) : Opn P (Kd.iso d f) t (fun x => g (f x)) := by
  constructor; intro H enc w base spare held fuel cs x hx
  obtain ⟨a, hk, hg⟩ := h.out hx
  exact ⟨b a, by show d.K w (f (b a)) cs; rw [hfb]; exact hk, by show g (f (b a)); rw [hfb]; exact hg⟩

def andG {α β : Type} (g : α → Prop) (gs : β → Prop) : α × β → Prop := fun x => g x.1 ∧ gs x.2
/-- The fields of a struct, from one on. -/
structure OpnF {α : Type} (P : Program) (d : Kd α) (off : Nat) (fs : List Field) (good : α → Prop) : Prop where
  out : ∀ {H : Type} {enc : TypeId × Value → H} {w : World} {base : Nat} {spare : Nat → Bool} {held : Bool} {fuel : Nat} {cs : List Value},
    cs.length = off + d.sz → (∀ f ∈ fs, ∃ y, DataW.trod enc P w base spare held fuel f.type ((cs.drop f.offset).take (P.cellsOf f.type)) = some y) → ∃ a, d.K w a (cs.drop off) ∧ good a
theorem OpnF.one {α : Type} {d : Kd α} {f : Field} {g : α → Prop} {off : Nat} (ho : f.offset = off) {n0 : Nat} (hc0 : P.cellsOf f.type = n0) (hs0 : d.sz = n0) (h : Opn P d f.type g) : OpnF P d off [f] g := by
  have hc : P.cellsOf f.type = d.sz := hc0.trans hs0.symm
  constructor; intro H enc w base spare held fuel cs hl hf
  obtain ⟨y, hy⟩ := hf f (by simp)
  rw [ho, hc, List.take_of_length_le (by simp; omega)] at hy
  exact h.out hy
theorem OpnF.cons {α β : Type} {d : Kd α} {ds : Kd β} {f : Field} {fs : List Field} {g : α → Prop} {gs : β → Prop} {off : Nat} (ho : f.offset = off) {n0 : Nat} (hc0 : P.cellsOf f.type = n0) (hs0 : d.sz = n0) (h : Opn P d f.type g) (hs : OpnF P ds (off + d.sz) fs gs) :
    OpnF P (Kd.pair d ds) off (f :: fs) (andG g gs) := by
  have hc : P.cellsOf f.type = d.sz := hc0.trans hs0.symm
  constructor; intro H enc w base spare held fuel cs hl hf
  obtain ⟨y, hy⟩ := hf f (by simp)
  rw [ho, hc] at hy
  obtain ⟨a, ha, hga⟩ := h.out hy
  obtain ⟨b, hb, hgb⟩ := hs.out (cs := cs) (by rw [hl]; show off + (d.sz + ds.sz) = _; omega) (fun f' hf' => hf f' (List.mem_cons_of_mem _ hf'))
  refine ⟨(a, b), ⟨_, _, ?_, ha, hb⟩, hga, hgb⟩
  rw [← List.drop_drop, List.take_append_drop]
theorem Opn.struct {α : Type} {d : Kd α} {t : TypeId} {L : List Field} {g : α → Prop} (ht : P.underlying t = some (.struct L.toArray)) {n0 : Nat} (hc0 : P.cellsOf t = n0) (hs0 : d.sz = n0) (h : OpnF P d 0 L g) : Opn P d t g := by
  have hc : P.cellsOf t = d.sz := hc0.trans hs0.symm
  constructor; intro H enc w base spare held fuel cs x hx
  obtain ⟨xs, n, _, _, hlen, hxs, hf⟩ := DataW.trod_struct ht hx
  obtain ⟨a, ha, hg⟩ := h.out (enc := enc) (w := w) (base := base) (spare := spare) (held := held) (fuel := n) (cs := cs) (by rw [hlen, hc]; omega) (fun f hm => by
    obtain ⟨i, hi, rfl⟩ := List.getElem_of_mem hm
    have h1 := hf i L[i] (by simp [hi])
    have hi2 : i < xs.length := by simp at hxs; omega
    exact ⟨xs[i], h1.trans (List.getElem?_eq_getElem hi2)⟩)
  exact ⟨a, by simpa using ha, hg⟩
end
end Go.Proofs.YtkglpfdoefdhdaaW.Open

namespace Go.Proofs.Ytkglpfdoefdhdaa.Q
open Go.RowKit Go.Proofs.YtkglpfdoefdhdaaW.PrintWords Go.Proofs.YtkglpfdoefdhdaaW.PrintLast Go.Proofs.YtkglpfdoefdhdaaW.PrintMore
attribute [local go_sem] max2_int min2_int max_two min_two max_three min_three max_four min_four
set_option linter.unusedVariables false
set_option linter.unusedSimpArgs false

open Go.Proofs.YtkglpfdoefdhdaaW.Open
def g46 (x : S46) : Prop := (Lit.int .i64 x.f0).wf = true ∧ (Lit.int .i64 x.f1).wf = true ∧ (x.f2.length ≤ maxLen ∧ ∀ y ∈ x.f2, (Lit.int .i64 y).wf = true)
theorem opn46 : Opn Try.prog k46 46 g46 := by
  show Opn Try.prog (Kd.iso (Kd.pair (Kd.int .i64) (Kd.pair (Kd.int .i64) (Kd.slice 3 (Kd.int .i64)))) (fun x : S46 => (x.f0, x.f1, x.f2))) 46 (fun x : S46 => (andG (fun x => (Lit.int .i64 x).wf = true) (andG (fun x => (Lit.int .i64 x).wf = true) (fun x => (x.length ≤ maxLen ∧ ∀ y ∈ x, (Lit.int .i64 y).wf = true)))) ((fun x : S46 => (x.f0, x.f1, x.f2)) x))
  refine Opn.iso (g := (andG (fun x => (Lit.int .i64 x).wf = true) (andG (fun x => (Lit.int .i64 x).wf = true) (fun x => (x.length ≤ maxLen ∧ ∀ y ∈ x, (Lit.int .i64 y).wf = true))))) (fun x : S46 => (x.f0, x.f1, x.f2)) (fun a : Int × Int × (List Int) => (⟨a.1, a.2.1, a.2.2⟩ : S46)) (fun _ => rfl) ?_
  refine Opn.struct Try.underlying46 (n0 := 3) (by kernel_rfl) rfl ?_
  refine OpnF.cons (n0 := 1) rfl ?_ rfl ?_ ?_
  · kernel_rfl
  · exact (Opn.int Try.underlying3)
  refine OpnF.cons (n0 := 1) rfl ?_ rfl ?_ ?_
  · kernel_rfl
  · exact (Opn.int Try.underlying3)
  refine OpnF.one (n0 := 1) rfl ?_ rfl ?_
  · kernel_rfl
  · exact (Opn.slice Try.underlying24 (n0 := 1) (by kernel_rfl) rfl (Opn.int Try.underlying3))
def g48 (x : S48) : Prop := (Lit.int .i64 x.f0).wf = true ∧ (Lit.int .i64 x.f1).wf = true ∧ (Lit.int .i64 x.f2).wf = true ∧ (Lit.int .i64 x.f3).wf = true
theorem opn48 : Opn Try.prog k48 48 g48 := by
  show Opn Try.prog (Kd.iso (Kd.pair (Kd.int .i64) (Kd.pair (Kd.int .i64) (Kd.pair (Kd.int .i64) (Kd.int .i64)))) (fun x : S48 => (x.f0, x.f1, x.f2, x.f3))) 48 (fun x : S48 => (andG (fun x => (Lit.int .i64 x).wf = true) (andG (fun x => (Lit.int .i64 x).wf = true) (andG (fun x => (Lit.int .i64 x).wf = true) (fun x => (Lit.int .i64 x).wf = true)))) ((fun x : S48 => (x.f0, x.f1, x.f2, x.f3)) x))
  refine Opn.iso (g := (andG (fun x => (Lit.int .i64 x).wf = true) (andG (fun x => (Lit.int .i64 x).wf = true) (andG (fun x => (Lit.int .i64 x).wf = true) (fun x => (Lit.int .i64 x).wf = true))))) (fun x : S48 => (x.f0, x.f1, x.f2, x.f3)) (fun a : Int × Int × Int × Int => (⟨a.1, a.2.1, a.2.2.1, a.2.2.2⟩ : S48)) (fun _ => rfl) ?_
  refine Opn.struct Try.underlying48 (n0 := 4) (by kernel_rfl) rfl ?_
  refine OpnF.cons (n0 := 1) rfl ?_ rfl ?_ ?_
  · kernel_rfl
  · exact (Opn.int Try.underlying3)
  refine OpnF.cons (n0 := 1) rfl ?_ rfl ?_ ?_
  · kernel_rfl
  · exact (Opn.int Try.underlying3)
  refine OpnF.cons (n0 := 1) rfl ?_ rfl ?_ ?_
  · kernel_rfl
  · exact (Opn.int Try.underlying3)
  refine OpnF.one (n0 := 1) rfl ?_ rfl ?_
  · kernel_rfl
  · exact (Opn.int Try.underlying3)
end Go.Proofs.Ytkglpfdoefdhdaa.Q

namespace Go.Proofs.Ytkglpfdoefdhdaa.Q
open Go.RowKit Go.Proofs.YtkglpfdoefdhdaaW.PrintWords Go.Proofs.YtkglpfdoefdhdaaW.PrintLast Go.Proofs.YtkglpfdoefdhdaaW.PrintMore
attribute [local go_sem] max2_int min2_int max_two min_two max_three min_three max_four min_four
set_option linter.unusedVariables false
set_option linter.unusedSimpArgs false

/-- What the walk of laws_FnExactNoteFlaw is to show. -/
def laws_FnExactNoteFlaw.Goal : Prop := ∀ (a0_0 : Int) (a0_1 : Int) (l0_2 : List Int) (l1 : List (S48)) (a2_0 : Int) (a2_1 : Int) (a2_2 : Int) (a2_3 : Int) (A0_2 : Option Addr) (c0_2 : Nat) (A1 : Option Addr) (c1 : Nat) (w : World) (hr0_2 : Kd.C (Kd.int .i64) w A0_2 l0_2.length l0_2) (hc0_2 : l0_2.length ≤ c0_2) (hr1 : Kd.C k48 w A1 l1.length l1) (hc1 : l1.length ≤ c1) (q0 : g46 (⟨a0_0, a0_1, l0_2⟩ : S46)) (q1 : (l1.length ≤ maxLen ∧ ∀ x ∈ l1, g48 x)) (q2 : g48 (⟨a2_0, a2_1, a2_2, a2_3⟩ : S48)),
    Calls Try.prog 4 #[.agg #[.int .i64 a0_0, .int .i64 a0_1, .slice A0_2 l0_2.length c0_2], .slice A1 l1.length c1, .agg #[.int .i64 a2_0, .int .i64 a2_1, .int .i64 a2_2, .int .i64 a2_3]] w fun e w' => e = .returned (.bool true) ∧ Below w.heap.size w w'
end Go.Proofs.Ytkglpfdoefdhdaa.Q

namespace Go.Proofs.YtkglpfdoefdhdaaW.SL
open Go Go.RowKit Go.Proofs.YtkglpfdoefdhdaaW.PrintWords
set_option linter.unusedSimpArgs false
set_option linter.unusedVariables false

/-! ### slots -/
abbrev Sl := List (Nat × Value)
def lk : Sl → Nat → Option Value
  | [], _ => none
  | (k, v) :: r, t => bif Nat.beq k t then some v else lk r t
def ev (L : Sl) : Operand → Option Value
  | .tmp t => lk L t
  | .const v => some v
  | .global g => some (.pointer (some ⟨g, 0, none⟩))
  | .func f => some (.func (.func f) #[] #[])
def evs (L : Sl) : List Operand → Option (List Value)
  | [] => some []
  | x :: r => match ev L x, evs L r with
    | some v, some vs => some (v :: vs)
    | _, _ => none
structure Fr (N : Nat) (a : Act) (L : Sl) : Prop where
  size : N ≤ a.tmps.size
  defers : a.defers = []
  at_ : ∀ t v, lk L t = some v → a.tmps[t]? = some v
section
variable {N : Nat} {a : Act} {L L' : Sl} {x : Operand} {v : Value}
theorem beq_no {k t : Nat} (e : ¬ k = t) : Nat.beq k t = false := by
  cases h : Nat.beq k t with
  | false => rfl
  | true => exact absurd (Nat.eq_of_beq_eq_true h) e
theorem Fr.ev (h : Fr N a L) (hx : ev L x = some v) : a.eval x = v := by
  cases x with
  | tmp t =>
    have := h.at_ t v hx
    simp only [Act.eval, Array.getD_eq_getD_getElem?, this, Option.getD_some]
  | const w => simpa [SL.ev, Act.eval] using hx
  | global g => simpa [SL.ev, Act.eval] using hx
  | func f => simpa [SL.ev, Act.eval] using hx
theorem Fr.evs (h : Fr N a L) : ∀ {xs : List Operand} {vs : List Value}, evs L xs = some vs → xs.map a.eval = vs
  | [], vs, hx => by simpa [SL.evs] using hx
  | x :: r, vs, hx => by
    unfold SL.evs at hx
    cases h1 : SL.ev L x with
    | none => simp [h1] at hx
    | some v =>
      cases h2 : SL.evs L r with
      | none => simp [h1, h2] at hx
      | some vs' =>
        simp only [h1, h2, Option.some.injEq] at hx
        subst hx
        simp [h.ev h1, h.evs h2]
theorem Fr.put (h : Fr N a L) {d : Nat} (hd : Nat.blt d N = true) (v : Value) : Fr N (a.put (some d) v) ((d, v) :: L) := by
  have hd' : d < N := by simpa [Nat.blt_eq] using hd
  refine ⟨by simpa [Act.put] using h.size, h.defers, fun t u hu => ?_⟩
  unfold lk at hu
  simp only [Act.put]
  by_cases e : d = t
  · subst e
    rw [show Nat.beq d d = true by simp] at hu
    simp only [cond_true, Option.some.injEq] at hu
    subst hu
    have := h.size
    rw [Array.getElem?_setIfInBounds_self_of_lt (by omega)]
  · rw [beq_no e] at hu
    simp only [cond_false] at hu
    rw [Array.getElem?_setIfInBounds_ne (by omega)]
    exact h.at_ t u hu
theorem Fr.put_none (h : Fr N a L) (v : Value) : Fr N (a.put none v) L := h
/-- What is told of the slots in L' is told in L. -/
def Sub : Sl → Sl → Prop
  | [], _ => True
  | p :: r, L => lk L p.1 = some p.2 ∧ Sub r L
theorem Sub.lk : ∀ {L' L : Sl}, Sub L' L → ∀ t v, lk L' t = some v → lk L t = some v
  | [], _, _, t, v, h => by simp [SL.lk] at h
  | p :: r, L, ⟨h1, h2⟩, t, v, h => by
    obtain ⟨k, u⟩ := p
    unfold SL.lk at h
    by_cases e : k = t
    · subst e
      rw [show Nat.beq k k = true by simp] at h
      simp only [cond_true, Option.some.injEq] at h
      subst h
      exact h1
    · rw [beq_no e] at h
      exact Sub.lk h2 t v h
theorem Fr.sub (h : Fr N a L) (hs : Sub L' L) : Fr N a L' := ⟨h.size, h.defers, fun t v hv => h.at_ t v (hs.lk t v hv)⟩
end
/-- Is the operation carried out (its guard)? -/
def wants (ops : Array Oper) (L : Sl) (o : Oper) : Option Bool :=
  match o.guard with
  | none => some true
  | some (j, want) => match (ops[j]?).bind (·.dst) with
    | none => none
    | some t => match lk L t with
      | some (.bool b) => some (b == want)
      | some (.tuple _) => some false
      | _ => none
theorem Fr.wants {N : Nat} {a : Act} {L : Sl} {ops : Array Oper} {o : Oper} {b : Bool} (h : Fr N a L) (hw : wants ops L o = some b) : Region.wanted o (yielded ops a.tmps) = b := by
  unfold SL.wants at hw
  unfold Region.wanted
  cases hg : o.guard with
  | none => simp only [hg, Option.some.injEq] at hw ⊢; exact hw
  | some p =>
    obtain ⟨j, want⟩ := p
    simp only [hg] at hw ⊢
    cases hj : (ops[j]?).bind (·.dst) with
    | none => simp [hj] at hw
    | some t =>
      simp only [hj] at hw
      cases hl : lk L t with
      | none => simp [hl] at hw
      | some u =>
        have := h.at_ t _ hl
        unfold yielded
        rw [hj, Option.bind_some, this]
        cases u <;> simp only [hl, Option.some.injEq, reduceCtorEq] at hw
        · rename_i c
          rw [← hw]
          cases c <;> cases want <;> rfl
        · rw [← hw]
          rfl

/-! ### memory -/
/-- A thing in memory that may be written: p w S: it is there, in the blocks S. -/
structure ItemS where
  p : World → (Nat → Prop) → Prop
  lt : ∀ {w S k}, p w S → S k → k < w.heap.size
  loc : ∀ {w w' : World} {S}, p w S → (∀ k, S k → w'.heap[k]? = w.heap[k]?) → p w' S
/-- A block of the call's own; a row of its own (elements of kind d and type e, made from block b on); anything else. -/
inductive Item : Type 1
  | box (g T : Nat) (cs : List Value)
  | row {α : Type} (d : Kd α) (e b : Nat) (v : Value) (xs : List α)
  /-- As row; no two elements lead to one block. -/
  | rowS {α : Type} (d : Kd α) (e b : Nat) (v : Value) (xs : List α)
  /-- As rowS, without element i: its cells are c, what it leads to (u) is told apart. -/
  | lent {α : Type} (d : Kd α) (e b : Nat) (v : Value) (xs : List α) (i : Int) (c : List Value) (u : Value)
  | any (i : ItemS)
def Item.p : Item → World → (Nat → Prop) → Prop
  | .box g T cs, w, S => w.heap[g]? = some (.cells cs.toArray T (0, 0)) ∧ ∀ k, S k ↔ k = g
  | .row d e b v xs, w, S => d.R e w b S v xs ∧ ∀ k, S k → k < w.heap.size
  | .rowS d e b v xs, w, S => Kd.S d e w b S v xs ∧ ∀ k, S k → k < w.heap.size
  | .lent d e b v xs i c u, w, S => ∃ ok oki : Nat → Prop, Kd.H d e w b ok v xs i oki c ∧ (∀ k, u.ownBlock = some k → oki k) ∧ (∀ k, S k ↔ (ok k ∧ ¬ oki k) ∧ k < w.heap.size) ∧ ∀ k, oki k → k < w.heap.size
  | .any i, w, S => i.p w S
theorem Item.lt : ∀ (i : Item) {w : World} {S : Nat → Prop} {k : Nat}, i.p w S → S k → k < w.heap.size
  | .box g T cs, w, S, k, h, hk => by rw [(h.2 k).1 hk]; exact blk_lt h.1
  | .row d e b v xs, w, S, k, h, hk => h.2 k hk
  | .rowS d e b v xs, w, S, k, h, hk => h.2 k hk
  | .lent d e b v xs i c u, w, S, k, ⟨_, _, _, _, h, _⟩, hk => ((h k).1 hk).2
  | .any i, w, S, k, h, hk => i.lt h hk
theorem Item.loc : ∀ (i : Item) {w w' : World} {S : Nat → Prop}, i.p w S → w.heap.size ≤ w'.heap.size → (∀ k, S k → w'.heap[k]? = w.heap[k]?) → i.p w' S
  | .box g T cs, w, w', S, h, _, hm => ⟨(hm g ((h.2 g).2 rfl)).trans h.1, h.2⟩
  | .row d e b v xs, w, w', S, h, hs, hm => ⟨Kd.R_move h.1 hm, fun k hk => Nat.lt_of_lt_of_le (h.2 k hk) hs⟩
  | .rowS d e b v xs, w, w', S, h, hs, hm => ⟨Kd.S_move h.1 hm, fun k hk => Nat.lt_of_lt_of_le (h.2 k hk) hs⟩
  | .lent d e b v xs i c u, w, w', S, ⟨ok, oki, h1, h2, h3, h4⟩, hs, hm => by
    have hb : Kd.H d e w b (fun k => ok k ∧ k < w.heap.size) v xs i oki c := by
      obtain ⟨g0, f, g1⟩ := h1
      exact ⟨fun k hk => ⟨g0 k hk, h4 k hk⟩, f, Kd.R_mono (Kd.R_bound g1) (fun k hk => ⟨⟨hk.1.1, hk.2.2.1⟩, hk.1.2⟩)⟩
    refine ⟨fun k => ok k ∧ k < w.heap.size, oki, Kd.H_step hb (fun k hk hn hlt => hm k ((h3 k).2 ⟨⟨hk.1, hn⟩, hlt⟩)), h2, fun k => ?_, fun k hk => Nat.lt_of_lt_of_le (h4 k hk) hs⟩
    rw [h3 k]
    constructor
    · rintro ⟨⟨g1, g2⟩, g3⟩
      exact ⟨⟨⟨g1, g3⟩, g2⟩, by omega⟩
    · rintro ⟨⟨⟨g1, g3⟩, g2⟩, _⟩
      exact ⟨⟨g1, g2⟩, g3⟩
  | .any i, w, w', S, h, _, hm => i.loc h hm
/-- All items, apart from one another, in the blocks S. -/
def Own : List Item → World → (Nat → Prop) → Prop
  | [], _, S => ∀ k, ¬ S k
  | i :: r, w, S => ∃ A B, i.p w A ∧ Own r w B ∧ (∀ k, S k ↔ A k ∨ B k) ∧ ∀ k, A k → ¬ B k
theorem Own.lt : ∀ {its : List Item} {w : World} {S : Nat → Prop}, Own its w S → ∀ k, S k → k < w.heap.size
  | [], _, _, h, k, hk => absurd hk (h k)
  | i :: r, w, S, ⟨A, B, h1, h2, h3, _⟩, k, hk => ((h3 k).1 hk).elim (fun ha => i.lt h1 ha) (fun hb => h2.lt k hb)
theorem Own.loc : ∀ {its : List Item} {w w' : World} {S : Nat → Prop}, Own its w S → w.heap.size ≤ w'.heap.size → (∀ k, S k → w'.heap[k]? = w.heap[k]?) → Own its w' S
  | [], _, _, _, h, _, _ => h
  | i :: r, w, w', S, ⟨A, B, h1, h2, h3, h4⟩, hs, hm => ⟨A, B, i.loc h1 hs (fun k hk => hm k ((h3 k).2 (.inl hk))), h2.loc hs (fun k hk => hm k ((h3 k).2 (.inr hk))), h3, h4⟩
/-- Item n by itself; and what stands there behind it. -/
theorem Own.focus : ∀ {its : List Item} {n : Nat} {i : Item} {w : World} {S : Nat → Prop}, its[n]? = some i → Own its w S → ∃ A, i.p w A ∧ (∀ k, A k → S k) ∧
    ∀ (w' : World) (i' : Item) (A' : Nat → Prop), i'.p w' A' → w.heap.size ≤ w'.heap.size → (∀ k, A' k → ¬ S k ∨ A k) → (∀ k, S k → ¬ A k → w'.heap[k]? = w.heap[k]?) → Own (its.set n i') w' (fun k => A' k ∨ (S k ∧ ¬ A k))
  | [], _, _, _, _, hn, _ => by simp at hn
  | j :: r, 0, i, w, S, hn, ⟨A, B, h1, h2, h3, h4⟩ => by
    obtain rfl : j = i := by simpa using hn
    refine ⟨A, h1, fun k hk => (h3 k).2 (.inl hk), fun w' i' A' hi' hs hA' hm => ?_⟩
    refine ⟨A', B, hi', h2.loc hs (fun k hk => hm k ((h3 k).2 (.inr hk)) (fun ha => h4 k ha hk)), fun k => ?_, fun k hk hb => ?_⟩
    · constructor
      · rintro (h | ⟨h5, h6⟩)
        · exact .inl h
        · exact .inr (((h3 k).1 h5).resolve_left h6)
      · rintro (h | h)
        · exact .inl h
        · exact .inr ⟨(h3 k).2 (.inr h), fun ha => h4 k ha h⟩
    · rcases hA' k hk with h | h
      · exact h ((h3 k).2 (.inr hb))
      · exact h4 k h hb
  | j :: r, n + 1, i, w, S, hn, ⟨A, B, h1, h2, h3, h4⟩ => by
    obtain ⟨C, g1, g2, g3⟩ := Own.focus (its := r) (n := n) (by simpa using hn) h2
    refine ⟨C, g1, fun k hk => (h3 k).2 (.inr (g2 k hk)), fun w' i' A' hi' hs hA' hm => ?_⟩
    refine ⟨A, fun k => A' k ∨ (B k ∧ ¬ C k), j.loc h1 hs (fun k hk => hm k ((h3 k).2 (.inl hk)) (fun hc => h4 k hk (g2 k hc))), g3 w' i' A' hi' hs (fun k hk => ?_) (fun k hb hc => hm k ((h3 k).2 (.inr hb)) hc), fun k => ?_, fun k hk hb => ?_⟩
    · rcases hA' k hk with h | h
      · exact .inl (fun hb => h ((h3 k).2 (.inr hb)))
      · exact .inr h
    · constructor
      · rintro (h | ⟨h5, h6⟩)
        · exact .inr (.inl h)
        · rcases (h3 k).1 h5 with h | h
          · exact .inl h
          · exact .inr (.inr ⟨h, h6⟩)
      · rintro (h | h | ⟨h5, h6⟩)
        · exact .inr ⟨(h3 k).2 (.inl h), fun hc => h4 k h (g2 k hc)⟩
        · exact .inl h
        · exact .inr ⟨(h3 k).2 (.inr h5), h6⟩
    · rcases hb with h | ⟨h5, h6⟩
      · rcases hA' k h with h' | h'
        · exact h' ((h3 k).2 (.inl hk))
        · exact h4 k hk (g2 k h')
      · exact h4 k hk h5
/-- Two as one. -/
theorem Own.one : ∀ {its : List Item} {n : Nat} {j1 j2 i : Item} {w : World} {S : Nat → Prop}, its[n]? = some j1 → Own (j2 :: its) w S → (∀ A1 A2 : Nat → Prop, j1.p w A1 → j2.p w A2 → (∀ k, A1 k → ¬ A2 k) → i.p w (fun k => A1 k ∨ A2 k)) → Own (its.set n i) w S := by
  intro its n j1 j2 i w S hn ⟨A2, C, h1, h2, h3, h4⟩ hi
  obtain ⟨A1, g1, g2, g3⟩ := h2.focus hn
  have hi' := hi A1 A2 g1 h1 (fun k hk h' => h4 k h' (g2 k hk))
  have hO := g3 w i _ hi' (Nat.le_refl _) (fun k hk => hk.elim .inr (fun h => .inl (fun hc => h4 k h hc))) (fun _ _ _ => rfl)
  refine (show (fun k => (A1 k ∨ A2 k) ∨ (C k ∧ ¬ A1 k)) = S from funext fun k => propext ?_) ▸ hO
  rw [h3 k]
  constructor
  · rintro ((h | h) | h)
    · exact .inr (g2 k h)
    · exact .inl h
    · exact .inr h.1
  · rintro (h | h)
    · exact .inl (.inr h)
    · by_cases ha : A1 k
      · exact .inl (.inl ha)
      · exact .inr ⟨h, ha⟩
/-- Item n taken out. -/
theorem Own.out : ∀ {its : List Item} {n : Nat} {i : Item} {w : World} {S : Nat → Prop}, its[n]? = some i → Own its w S → ∃ A B, i.p w A ∧ Own (its.eraseIdx n) w B ∧ (∀ k, S k ↔ A k ∨ B k) ∧ ∀ k, A k → ¬ B k
  | [], _, _, _, _, hn, _ => by simp at hn
  | j :: r, 0, i, w, S, hn, ⟨A, B, h1, h2, h3, h4⟩ => by
    obtain rfl : j = i := by simpa using hn
    exact ⟨A, B, h1, h2, h3, h4⟩
  | j :: r, n + 1, i, w, S, hn, ⟨A, B, h1, h2, h3, h4⟩ => by
    obtain ⟨C, D, g1, g2, g3, g4⟩ := Own.out (its := r) (n := n) (by simpa using hn) h2
    refine ⟨C, fun k => A k ∨ D k, g1, ⟨A, D, h1, g2, fun k => Iff.rfl, fun k ha hd => h4 k ha ((g3 k).2 (.inr hd))⟩, fun k => ?_, fun k hc hd => ?_⟩
    · rw [h3 k, g3 k]
      constructor
      · rintro (h | h | h)
        · exact .inr (.inl h)
        · exact .inl h
        · exact .inr (.inr h)
      · rintro (h | h | h)
        · exact .inr (.inl h)
        · exact .inl h
        · exact .inr (.inr h)
    · rcases hd with h | h
      · exact h4 k h ((g3 k).2 (.inl hc))
      · exact g4 k hc h
/-- W is w but for the blocks S and new ones. -/
structure Aft (S : Nat → Prop) (w W : World) : Prop where
  os : W.os = w.os
  tape : W.tape = w.tape
  output : W.output = w.output
  size : w.heap.size ≤ W.heap.size
  block : ∀ k, k < w.heap.size → ¬ S k → W.heap[k]? = w.heap[k]?
theorem Aft.refl (S : Nat → Prop) (w : World) : Aft S w w := ⟨rfl, rfl, rfl, Nat.le_refl _, fun _ _ _ => rfl⟩
theorem Aft.trans {S S' : Nat → Prop} {w w' W : World} (h : Aft S w w') (h' : Aft S' w' W) (hS : ∀ k, S' k → k < w.heap.size → S k) : Aft S w W :=
  ⟨h'.os.trans h.os, h'.tape.trans h.tape, h'.output.trans h.output, Nat.le_trans h.size h'.size, fun k hlt hn => (h'.block k (Nat.lt_of_lt_of_le hlt h.size) (fun hs => hn (hS k hs hlt))).trans (h.block k hlt hn)⟩
theorem Aft.of_below {w w' : World} (S : Nat → Prop) (h : Below w.heap.size w w') : Aft S w w' := ⟨h.os, h.tape, h.output, h.size, fun k hk _ => h.block k hk⟩
theorem Aft.below {S : Nat → Prop} {w w' : World} {B : Nat} (h : Aft S w w') (hB : B ≤ w.heap.size) (hS : ∀ k, S k → B ≤ k) : Below B w w' := ⟨h.os, h.tape, h.output, h.size, fun k hk => h.block k (by omega) (fun hs => by have := hS k hs; omega)⟩
theorem Aft.all {w w' : World} {S : Nat → Prop} (h : Aft S w w') (hS : ∀ k, k < w.heap.size → ¬ S k) : Below w.heap.size w w' := ⟨h.os, h.tape, h.output, h.size, fun k hk => h.block k hk (hS k hk)⟩
/-- A fact that lasts: whatever happens to the blocks S and to new ones. -/
def Sta (S : Nat → Prop) (w : World) (p : World → Prop) : Prop := ∀ W : World, Aft S w W → p W
theorem Sta.now {S : Nat → Prop} {w : World} {p : World → Prop} (h : Sta S w p) : p w := h w (Aft.refl S w)
theorem Sta.step {S S' : Nat → Prop} {w w' : World} {p : World → Prop} (h : Sta S w p) (ha : Aft S w w') (hS : ∀ k, S' k → k < w.heap.size → S k) : Sta S' w' p :=
  fun W hW => h W (ha.trans hW hS)
theorem Sta.imp {S : Nat → Prop} {w : World} {p q : World → Prop} (h : Sta S w p) (hq : ∀ W, p W → q W) : Sta S w q := fun W h1 => hq W (h W h1)
/-- Where a call began: its world, and what of it the call may write. -/
structure Base where
  w : World
  S : Nat → Prop
abbrev base (w : World) : Base := ⟨w, fun _ => False⟩
/-- The world at some point of a call that began at B. -/
structure WS (B : Base) (w : World) (its : List Item) (ps : List (World → Prop)) : Prop where
  aft : Aft B.S B.w w
  own : ∃ S, Own its w S ∧ (∀ k, S k → B.S k ∨ B.w.heap.size ≤ k) ∧ ∀ p ∈ ps, Sta S w p
section
variable {B : Base} {w w' : World} {its its' : List Item} {ps ps' : List (World → Prop)}
theorem WS.start (w : World) : WS (base w) w [] [] := ⟨Aft.refl _ _, fun _ => False, fun k h => h, fun k h => h.elim, fun p hp => by cases hp⟩
theorem WS.startW {w : World} {S : Nat → Prop} (h : Own its w S) (hp : ∀ p ∈ ps, Sta S w p) : WS ⟨w, S⟩ w its ps := ⟨Aft.refl _ _, S, h, fun k h => .inl h, hp⟩
theorem WS.below {w0 : World} (h : WS (base w0) w its ps) : Below w0.heap.size w0 w := h.aft.all (fun _ _ hk => hk)
theorem WS.size (h : WS B w its ps) : B.w.heap.size ≤ w.heap.size := h.aft.size
/-- Nothing of what was there has been touched. -/
theorem WS.call (h : WS B w its ps) (hb : Below w.heap.size w w') : WS B w' its ps := by
  obtain ⟨h1, S, h2, h3, h4⟩ := h
  exact ⟨h1.trans (Aft.of_below (fun _ => False) hb) (fun k hk _ => hk.elim), S, h2.loc hb.size (fun k hk => hb.block k (h2.lt k hk)), h3, fun p hp => (h4 p hp).step (Aft.of_below S hb) (fun k hk _ => hk)⟩
theorem WS.fact (h : WS B w its ps) {p : World → Prop} (hp : p ∈ ps) : p w := by
  obtain ⟨_, S, _, _, h4⟩ := h
  exact (h4 p hp).now
theorem WS.at (h : WS B w its ps) (n : Nat) {p : World → Prop} (hn : ps[n]? = some p) : p w := h.fact (List.mem_of_getElem? hn)
theorem WS.sub (h : WS B w its ps) (hs : ∀ p ∈ ps', p ∈ ps) : WS B w its ps' := by
  obtain ⟨h1, S, h2, h3, h4⟩ := h
  exact ⟨h1, S, h2, h3, fun p hp => h4 p (hs p hp)⟩
theorem WS.imp (h : WS B w its ps) {p q : World → Prop} (hp : p ∈ ps) (hq : ∀ W, p W → q W) : WS B w its (q :: ps) := by
  obtain ⟨h1, S, h2, h3, h4⟩ := h
  refine ⟨h1, S, h2, h3, fun r hr => ?_⟩
  rcases List.mem_cons.1 hr with rfl | hr
  · exact (h4 p hp).imp hq
  · exact h4 r hr
/-- A fact that lasts, out of the others. -/
theorem WS.lay (h : WS B w its ps) {q : World → Prop} (hq : ∀ S, Own its w S → (∀ p ∈ ps, Sta S w p) → Sta S w q) : WS B w its (q :: ps) := by
  obtain ⟨h1, S, h2, h3, h4⟩ := h
  refine ⟨h1, S, h2, h3, fun r hr => ?_⟩
  rcases List.mem_cons.1 hr with rfl | hr
  · exact hq S h2 h4
  · exact h4 r hr
/-- One more item, in new blocks. -/
theorem WS.new (h : WS B w its ps) (hb : Below w.heap.size w w') {i : Item} {A : Nat → Prop} (hi : i.p w' A) (hA : ∀ k, A k → w.heap.size ≤ k) : WS B w' (i :: its) ps := by
  have hc := h.call hb
  obtain ⟨h1, S, h2, h3, h4⟩ := h
  refine ⟨hc.aft, fun k => A k ∨ S k, ⟨A, S, hi, h2.loc hb.size (fun k hk => hb.block k (h2.lt k hk)), fun k => Iff.rfl, fun k ha hs => by have := hA k ha; have := h2.lt k hs; omega⟩, ?_, fun p hp => (h4 p hp).step (Aft.of_below S hb) (fun k hk hlt => ?_)⟩
  · rintro k (hk | hk)
    · exact .inr (Nat.le_trans h1.size (hA k hk))
    · exact h3 k hk
  · rcases hk with hk | hk
    · have := hA k hk; omega
    · exact hk
/-- Item n is another one now; nothing else was touched. -/
theorem WS.upd (h : WS B w its ps) {n : Nat} {i i' : Item} (hn : its[n]? = some i)
    (hw : ∀ A, i.p w A → (∀ k, A k → B.S k ∨ B.w.heap.size ≤ k) → ∃ A', i'.p w' A' ∧ (∀ k, A' k → k < w.heap.size → A k) ∧ Aft A w w') : WS B w' (its.set n i') ps := by
  obtain ⟨h1, S, h2, h3, h4⟩ := h
  obtain ⟨A, g1, g2, g3⟩ := h2.focus hn
  obtain ⟨A', e1, e2, e3⟩ := hw A g1 (fun k hk => h3 k (g2 k hk))
  have hS := h2.lt
  have e3' : Aft S w w' := ⟨e3.os, e3.tape, e3.output, e3.size, fun k hk hn => e3.block k hk (fun ha => hn (g2 k ha))⟩
  refine ⟨h1.trans e3 (fun k hk hlt => (h3 k (g2 k hk)).resolve_right (by omega)), _, g3 w' i' A' e1 e3.size (fun k hk => ?_) (fun k hs ha => e3.block k (hS k hs) ha), ?_, fun p hp => (h4 p hp).step e3' ?_⟩
  · by_cases hlt : k < w.heap.size
    · exact .inr (e2 k hk hlt)
    · exact .inl (fun hs => hlt (hS k hs))
  · rintro k (hk | hk)
    · by_cases hlt : k < w.heap.size
      · exact h3 k (g2 k (e2 k hk hlt))
      · exact .inr (Nat.le_trans h1.size (by omega))
    · exact h3 k hk.1
  · rintro k (hk | hk) hlt
    · exact g2 k (e2 k hk hlt)
    · exact hk.1
/-- Item n is written no more: a fact on it that lasts. -/
theorem WS.freeze (h : WS B w its ps) {n : Nat} {i : Item} (hn : its[n]? = some i) {p : World → Prop} (hp : ∀ W A, i.p W A → p W) : WS B w (its.eraseIdx n) (p :: ps) := by
  obtain ⟨h1, S, h2, h3, h4⟩ := h
  obtain ⟨A, B', g1, g2, g3, g4⟩ := h2.out hn
  refine ⟨h1, B', g2, fun k hk => h3 k ((g3 k).2 (.inr hk)), fun q hq => ?_⟩
  rcases List.mem_cons.1 hq with rfl | hq
  · exact fun W hm => hp W A (i.loc g1 hm.size (fun k hk => hm.block k (i.lt g1 hk) (g4 k hk)))
  · exact (h4 q hq).step (Aft.refl S w) (fun k hk _ => (g3 k).2 (.inr hk))
theorem WS.drop (h : WS B w its ps) {n : Nat} {i : Item} (hn : its[n]? = some i) : WS B w (its.eraseIdx n) ps := by
  have := h.freeze hn (p := fun _ => True) (fun _ _ _ => trivial)
  exact this.sub (fun p hp => List.mem_cons_of_mem _ hp)
/-- An item by itself. -/
theorem WS.item (h : WS B w its ps) {i : Item} (hi : i ∈ its) : ∃ A, i.p w A := by
  obtain ⟨_, S, h2, _, _⟩ := h
  obtain ⟨n, hn⟩ := List.mem_iff_getElem?.1 hi
  obtain ⟨A, g1, _⟩ := h2.focus hn
  exact ⟨A, g1⟩
end
end Go.Proofs.YtkglpfdoefdhdaaW.SL

namespace Go.Proofs.YtkglpfdoefdhdaaW.SL
open Go Go.RowKit Go.Proofs.YtkglpfdoefdhdaaW.PrintWords
set_option linter.unusedSimpArgs false
set_option linter.unusedVariables false

/-- The cells from an address on. -/
def Cells (w : World) (ad : Addr) (cs : List Value) : Prop := ∀ j u, cs[j]? = some u → w.cell? (ad.add j) = some u

/-! #### the operations of a region, in the text's order -/
/-- Which operations of a region that draws its order are taken first; which come last of all. -/
structure Dm where
  takes : Nat → Bool
  needs : Nat → Bool
abbrev plain : Dm := ⟨fun _ => false, fun _ => false⟩
def runG (P : Program) (ops : Array Oper) (Q : Exit → Act → World → Prop) (D : Dm) : Nat → List Oper → Act → World → Prop
  | _, [], a, w => Q .normal a w
  | k, o :: r, a, w =>
    if D.takes k = true then ∃ v, YieldsIf P ops (fun W => Below w.heap.size w W) o v a ∧ runG P ops Q D (k + 1) r (a.put o.dst v) w
    else if Region.wanted o (yielded ops a.tmps) = true then o.wp P a w (fun a' w' => (D.needs k = true → Below w.heap.size w w') ∧ runG P ops Q D (k + 1) r a' w') Q
    else runG P ops Q D (k + 1) r (a.put o.dst undef) w
theorem wpList_of_run {P : Program} {ops : Array Oper} {Q : Exit → Act → World → Prop} : ∀ (l : List Oper) (k : Nat) (a : Act) (w : World), runG P ops Q plain k l a w → wpList P ops Q l a w
  | [], _, _, _, h => h
  | o :: r, k, a, w, h => by
    unfold runG at h
    rw [if_neg (by simp)] at h
    unfold wpList
    split
    · rename_i hw
      rw [if_pos hw] at h
      exact .inl (Oper.wp_mono (fun a' w' h' => wpList_of_run r (k + 1) a' w' h'.2) h)
    · rename_i hw
      rw [if_neg hw] at h
      exact wpList_of_run r (k + 1) _ _ h

section
variable (P : Program) (N : Nat) (B : Base)
/-- From the slots L, the items its, the facts ps on: K. -/
structure Ej (K : Act → World → Prop) (L : Sl) (its : List Item) (ps : List (World → Prop)) : Prop where
  mk :: (out : ∀ a w, Fr N a L → WS B w its ps → K a w)
structure Jl (D : Dm) (k : Nat) (ops : Array Oper) (Q : Exit → Act → World → Prop) (rest : List Oper) (L : Sl) (its : List Item) (ps : List (World → Prop)) : Prop where
  mk :: (out : ∀ a w, Fr N a L → WS B w its ps → runG P ops Q D k rest a w)
structure Cj (c : Code) (Q : Exit → Act → World → Prop) (L : Sl) (its : List Item) (ps : List (World → Prop)) : Prop where
  mk :: (out : ∀ a w, Fr N a L → WS B w its ps → c.wp P Q a w)
/-- The operation yields v and touches nothing. -/
structure Yd (o : Oper) (v : Value) (L : Sl) (its : List Item) (ps : List (World → Prop)) : Prop where
  mk :: (out : ∀ a w, Fr N a L → WS B w its ps → (execOp a.eval o).run P w = .ok (.value v) w)
end

section
variable {P : Program} {N : Nat} {B : Base} {L L' : Sl} {its its' : List Item} {ps ps' : List (World → Prop)} {Q : Exit → Act → World → Prop} {D : Dm} {k : Nat} {ops : Array Oper} {rest : List Oper} {o : Oper} {c c1 c2 : Code} {d t T n : Nat} {v v2 : Value} {b : Bool}

instance {K : Act → World → Prop} : CoeFun (Ej N B K L its ps) (fun _ => ∀ a w, Fr N a L → WS B w its ps → K a w) := ⟨Ej.out⟩
instance : CoeFun (Jl P N B D k ops Q rest L its ps) (fun _ => ∀ a w, Fr N a L → WS B w its ps → runG P ops Q D k rest a w) := ⟨Jl.out⟩
instance : CoeFun (Cj P N B c Q L its ps) (fun _ => ∀ a w, Fr N a L → WS B w its ps → c.wp P Q a w) := ⟨Cj.out⟩
instance : CoeFun (Yd P N B o v L its ps) (fun _ => ∀ a w, Fr N a L → WS B w its ps → (execOp a.eval o).run P w = .ok (.value v) w) := ⟨Yd.out⟩
/-! #### code -/
theorem Cj.seq (hc : c = .seq c1 c2) (h : Cj P N B c1 (Exit.then (c2.wp P Q) Q) L its ps) : Cj P N B c Q L its ps := by
  subst hc
  refine ⟨?_⟩
  exact fun a w hf hw => wp_seq (h a w hf hw)
theorem Cj.region {id : Nat} (hc : c = .region id ops false) (h : Jl P N B plain 0 ops Q ops.toList L its ps) : Cj P N B c Q L its ps := by
  subst hc
  refine ⟨?_⟩
  exact fun a w hf hw => wp_region_list (wpList_of_run _ _ _ _ (h a w hf hw))
theorem Cj.cond {z : Operand} (hc : c = .cond z c1 c2) (hz : ev L z = some (.bool b)) (ht : b = true → Cj P N B c1 Q L its ps) (hf : b = false → Cj P N B c2 Q L its ps) : Cj P N B c Q L its ps := by
  subst hc
  refine ⟨?_⟩
  exact fun a w hF hw => wp_cond_split (hF.ev hz) (fun e => ht e a w hF hw) (fun e => hf e a w hF hw)
theorem Cj.condT {z : Operand} (hc : c = .cond z c1 c2) (hz : ev L z = some (.bool true)) (h : Cj P N B c1 Q L its ps) : Cj P N B c Q L its ps :=
  Cj.cond hc hz (fun _ => h) (fun e => by cases e)
theorem Cj.condF {z : Operand} (hc : c = .cond z c1 c2) (hz : ev L z = some (.bool false)) (h : Cj P N B c2 Q L its ps) : Cj P N B c Q L its ps :=
  Cj.cond hc hz (fun e => by cases e) (fun _ => h)
theorem Cj.block {id : Nat} (hc : c = .block id c1) (h : Cj P N B c1 (Exit.inBlock id Q) L its ps) : Cj P N B c Q L its ps := by
  subst hc
  refine ⟨?_⟩
  exact fun a w hf hw => wp_block (h a w hf hw)
theorem Cj.skip (hc : c = .skip) (h : Ej N B (Q .normal) L its ps) : Cj P N B c Q L its ps := by
  subst hc
  refine ⟨?_⟩
  exact fun a w hf hw => wp_skip (h a w hf hw)
theorem Cj.exit {id : Nat} (hc : c = .exit id) (h : Ej N B (Q (.exit id)) L its ps) : Cj P N B c Q L its ps := by
  subst hc
  refine ⟨?_⟩
  exact fun a w hf hw => wp_exit (h a w hf hw)
theorem Cj.ret (hc : c = .ret) (h : Ej N B (Q .ret) L its ps) : Cj P N B c Q L its ps := by
  subst hc
  refine ⟨?_⟩
  exact fun a w hf hw => wp_ret (h a w hf hw)
theorem Jl.nil (h : Ej N B (Q .normal) L its ps) : Jl P N B D k ops Q [] L its ps := .mk <| fun a w hf hw => h a w hf hw
/-- What follows is known to be this code. -/
theorem Ej.go {K : Act → World → Prop} (h : Cj P N B c2 Q L its ps) (hK : ∀ a w, c2.wp P Q a w → K a w) : Ej N B K L its ps := .mk <| fun a w hf hw => hK a w (h a w hf hw)
theorem Ej.sub {K : Act → World → Prop} (L' : Sl) (ps' : List (World → Prop)) (hL : Sub L' L) (hp : ∀ p ∈ ps', p ∈ ps) (h : Ej N B K L' its ps') : Ej N B K L its ps := .mk <| fun a w hf hw => h a w (hf.sub hL) (hw.sub hp)
theorem Ej.cut {K : Act → World → Prop} {ι : Type} (I : ι → Prop) (Lf : ι → Sl) (If : ι → List Item) (Pf : ι → List (World → Prop)) (hK : ∀ a w, (∃ i, I i ∧ Fr N a (Lf i) ∧ WS B w (If i) (Pf i)) → K a w) (i : ι) (hi : I i) (hL : Sub (Lf i) L) (hI : its = If i) (hp : ∀ p ∈ Pf i, p ∈ ps) : Ej N B K L its ps :=
  .mk <| fun a w hf hw => hK a w ⟨i, hi, hf.sub hL, by subst hI; exact hw.sub hp⟩
/-- What lies in memory, told otherwise. -/
theorem Cj.ws {ι : Type} (I : ι → Prop) (If : ι → List Item) (Pf : ι → List (World → Prop)) (h1 : ∀ w, WS B w its ps → ∃ i, I i ∧ WS B w (If i) (Pf i)) (h : ∀ i, I i → Cj P N B c Q L (If i) (Pf i)) : Cj P N B c Q L its ps := by
  refine ⟨?_⟩
  intro a w hf hw
  obtain ⟨i, hi, hw'⟩ := h1 w hw
  exact h i hi a w hf hw'
theorem Jl.ws {ι : Type} (I : ι → Prop) (If : ι → List Item) (Pf : ι → List (World → Prop)) (h1 : ∀ w, WS B w its ps → ∃ i, I i ∧ WS B w (If i) (Pf i)) (h : ∀ i, I i → Jl P N B D k ops Q rest L (If i) (Pf i)) : Jl P N B D k ops Q rest L its ps := by
  refine ⟨?_⟩
  intro a w hf hw
  obtain ⟨i, hi, hw'⟩ := h1 w hw
  exact h i hi a w hf hw'
theorem Ej.ws {K : Act → World → Prop} {ι : Type} (I : ι → Prop) (If : ι → List Item) (Pf : ι → List (World → Prop)) (h1 : ∀ w, WS B w its ps → ∃ i, I i ∧ WS B w (If i) (Pf i)) (h : ∀ i, I i → Ej N B K L (If i) (Pf i)) : Ej N B K L its ps := by
  refine ⟨?_⟩
  intro a w hf hw
  obtain ⟨i, hi, hw'⟩ := h1 w hw
  exact h i hi a w hf hw'
/-- Some items (the youngest) are forgotten. -/
inductive DropTo : List Item → List Item → Prop
  | refl {r} : DropTo r r
  | tail {i r r'} : DropTo r r' → DropTo (i :: r) r'
theorem WS.dropTo {w : World} : ∀ {its its' : List Item}, DropTo its its' → WS B w its ps → WS B w its' ps
  | _, _, .refl, h => h
  | _, _, .tail d, h => WS.dropTo d (h.drop (n := 0) rfl)
theorem Ej.back {K : Act → World → Prop} (hK : ∀ a w, (Fr N a L' ∧ WS B w its' ps) → K a w) (hI : DropTo its its') (hL : Sub L' L) : Ej N B K L its ps := .mk <| fun a w hf hw => hK a w ⟨hf.sub hL, hw.dropTo hI⟩
theorem least {p : Nat → Prop} (h : ∃ n, p n) : ∃ n, p n ∧ ∀ m, p m → n ≤ m := by
  obtain ⟨n, hn⟩ := h
  induction n using Nat.strongRecOn with
  | _ n ih =>
    by_cases hex : ∃ m, m < n ∧ p m
    · obtain ⟨m, hlt, hm⟩ := hex
      exact ih m hlt hm
    · exact ⟨n, hn, fun m hm => Nat.le_of_not_lt fun hlt => hex ⟨m, hlt, hm⟩⟩
open Classical in
theorem Cj.loop {ι : Type} (I : ι → Prop) (Lf : ι → Sl) (If : ι → List Item) (Pf : ι → List (World → Prop)) (μ : ι → Nat) (hc : c = .loop c1) (i0 : ι) (h0 : I i0) (hL : Sub (Lf i0) L) (hI : its = If i0) (hp : ∀ p ∈ Pf i0, p ∈ ps)
    (h : ∀ i, I i → Cj P N B c1 (Exit.then (fun a w => ∃ j, (I j ∧ μ j < μ i) ∧ Fr N a (Lf j) ∧ WS B w (If j) (Pf j)) Q) (Lf i) (If i) (Pf i)) : Cj P N B c Q L its ps := by
  subst hc; subst hI
  refine ⟨?_⟩
  intro a w hf hw
  let J : Act → World → Nat → Prop := fun a w n => ∃ i, I i ∧ μ i = n ∧ Fr N a (Lf i) ∧ WS B w (If i) (Pf i)
  have hmin : ∀ a w, (∃ n, J a w n) → ∃ n, J a w n ∧ ∀ m, J a w m → n ≤ m := fun a w hn => least hn
  refine wp_loop (fun a w => ∃ n, J a w n) (fun a w => if h : ∃ n, J a w n then (hmin a w h).choose else 0) ⟨_, i0, h0, rfl, hf.sub hL, hw.sub hp⟩ (fun a w hJ => ?_)
  rw [dif_pos hJ]
  obtain ⟨i, hi, hμ, h1, h2⟩ := (hmin a w hJ).choose_spec.1
  refine Code.wp_mono (fun e a' w' q => ?_) (h i hi a w h1 h2)
  cases e with
  | normal =>
    obtain ⟨j, ⟨hj, hlt⟩, g1, g2⟩ := q
    have hJ' : ∃ n, J a' w' n := ⟨_, j, hj, rfl, g1, g2⟩
    refine ⟨hJ', ?_⟩
    rw [dif_pos hJ', ← hμ]
    exact Nat.lt_of_le_of_lt ((hmin a' w' hJ').choose_spec.2 _ ⟨j, hj, rfl, g1, g2⟩) hlt
  | exit _ => exact q
  | goto _ => exact q
  | ret => exact q
  | panic _ => exact q
  | outgrown => exact q
/-- The call's end: the one result in a slot. -/
theorem Ej.out1 {fn : Func} {R : Ending → World → Prop} {K : Act → World → Prop} (hK : ∀ a w, bodyPost P fn R .ret a w → K a w) (hr : fn.results = #[.tmp t]) (hv : lk L t = some v) (hR : ∀ w, WS B w its ps → R (.returned v) w) : Ej N B K L its ps := by
  refine ⟨?_⟩
  intro a w hf hw
  have := hf.at_ t v hv
  refine hK a w ⟨hf.defers, v, ?_, hR w hw⟩
  simp [results, hr, this]
theorem Ej.out2 {fn : Func} {R : Ending → World → Prop} {K : Act → World → Prop} (hK : ∀ a w, bodyPost P fn R .ret a w → K a w) {s : Nat} (hr : fn.results = #[.tmp t, .tmp s]) (hv : lk L t = some v) (hu : lk L s = some v2) (hR : ∀ w, WS B w its ps → R (.returned (.tuple #[v, v2])) w) : Ej N B K L its ps := by
  refine ⟨?_⟩
  intro a w hf hw
  have h1 := hf.at_ t v hv
  have h2 := hf.at_ s v2 hu
  refine hK a w ⟨hf.defers, _, ?_, hR w hw⟩
  simp [results, hr, h1, h2]
/-- A call begins: the arguments in the first slots. -/
def slots0 : Nat → List Value → Sl
  | _, [] => []
  | n, v :: r => (n, v) :: slots0 (n + 1) r
theorem slots0_lk : ∀ (args : List Value) (n : Nat) (t : Nat) (v : Value), lk (slots0 n args) t = some v → ∃ j, t = n + j ∧ args[j]? = some v
  | [], _, _, _, h => by simp [slots0, lk] at h
  | u :: r, n, t, v, h => by
    unfold slots0 lk at h
    by_cases e : n = t
    · subst e
      rw [show Nat.beq n n = true by simp] at h
      exact ⟨0, rfl, by simpa using h⟩
    · rw [beq_no e] at h
      obtain ⟨j, h1, h2⟩ := slots0_lk r (n + 1) t v h
      exact ⟨j + 1, by omega, by simpa using h2⟩
theorem enter {f : FuncId} {fn : Func} {args : List Value} {w : World} {R : Ending → World → Prop} (hf : P.funcs[f]? = some fn) (hb : fn.body = some c) (hN : fn.ntmps = N)
    (h : Cj P N (base w) c (bodyPost P fn R) (slots0 0 args) [] []) : Calls P f args.toArray w R := by
  refine calls_of_wp hf hb (h _ _ ⟨?_, rfl, fun t v hv => ?_⟩ (WS.start w))
  · simp only [Array.size_append, Array.size_replicate, List.size_toArray]; omega
  · obtain ⟨j, h1, h2⟩ := slots0_lk args 0 t v hv
    have hj : j < args.length := by
      rcases Nat.lt_or_ge j args.length with h' | h'
      · exact h'
      · rw [List.getElem?_eq_none h'] at h2; cases h2
    rw [show t = j by omega, Array.getElem?_append_left (by simpa using hj)]
    simpa using h2
theorem enterS {f : FuncId} {fn : Func} {args : List Value} {w : World} {S : Nat → Prop} {R : Ending → World → Prop} (its : List Item) (ps : List (World → Prop)) (hO : Own its w S) (hp : ∀ p ∈ ps, Sta S w p) (hf : P.funcs[f]? = some fn) (hb : fn.body = some c) (hN : fn.ntmps = N)
    (h : Cj P N ⟨w, S⟩ c (bodyPost P fn R) (slots0 0 args) its ps) : Calls P f args.toArray w R := by
  refine calls_of_wp hf hb (h _ _ ⟨?_, rfl, fun t v hv => ?_⟩ (WS.startW hO hp))
  · simp only [Array.size_append, Array.size_replicate, List.size_toArray]; omega
  · obtain ⟨j, h1, h2⟩ := slots0_lk args 0 t v hv
    have hj : j < args.length := by
      rcases Nat.lt_or_ge j args.length with h' | h'
      · exact h'
      · rw [List.getElem?_eq_none h'] at h2; cases h2
    rw [show t = j by omega, Array.getElem?_append_left (by simpa using hj)]
    simpa using h2
theorem enterW {f : FuncId} {fn : Func} {args : List Value} {w : World} {R : Ending → World → Prop} (ps : List (World → Prop)) (hp : ∀ p ∈ ps, ∀ W, Below w.heap.size w W → p W) (hf : P.funcs[f]? = some fn) (hb : fn.body = some c) (hN : fn.ntmps = N)
    (h : Cj P N (base w) c (bodyPost P fn R) (slots0 0 args) [] ps) : Calls P f args.toArray w R :=
  enterS [] ps (fun k h => h) (fun p hp' W hm => hp p hp' W (hm.all (fun _ _ h => h))) hf hb hN h

/-! #### operations -/
theorem Jl.e {ι : Type} (val : ι → Value) (its' : ι → List Item) (ps' : ι → List (World → Prop)) (hw : wants ops L o = some true) (hd : o.dst = some d) (hN : Nat.blt d N = true)
    (h1 : ∀ a w, Fr N a L → WS B w its ps → ∃ i w', (execOp a.eval o).run P w = .ok (.value (val i)) w' ∧ (D.needs k = true → Below w.heap.size w w') ∧ WS B w' (its' i) (ps' i))
    (h : ∀ i, Jl P N B D (k + 1) ops Q rest ((d, val i) :: L) (its' i) (ps' i)) (hD : D.takes k = false := by rfl) : Jl P N B D k ops Q (o :: rest) L its ps := by
  refine ⟨?_⟩
  intro a w hf hW
  obtain ⟨i, w', hr, hb, hW'⟩ := h1 a w hf hW
  unfold runG
  rw [if_neg (by rw [hD]; simp), if_pos (hf.wants hw)]
  unfold Oper.wp
  rw [hr, Oper.upon_value, hd]
  exact ⟨hb, h i _ _ (hf.put hN _) hW'⟩
theorem Jl.un (its' : List Item) (hw : wants ops L o = some true) (hd : o.dst = none)
    (h1 : ∀ a w, Fr N a L → WS B w its ps → ∃ w', (execOp a.eval o).run P w = .ok .skip w' ∧ WS B w' its' ps)
    (h : Jl P N B D (k + 1) ops Q rest L its' ps) (hD : D.takes k = false := by rfl) (hE : D.needs k = false := by rfl) : Jl P N B D k ops Q (o :: rest) L its ps := by
  refine ⟨?_⟩
  intro a w hf hW
  obtain ⟨w', hr, hW'⟩ := h1 a w hf hW
  unfold runG
  rw [if_neg (by rw [hD]; simp), if_pos (hf.wants hw)]
  unfold Oper.wp
  rw [hr, Oper.upon_skip, hd]
  exact ⟨fun h' => (by rw [hE] at h'; cases h'), h _ _ (hf.put_none _) hW'⟩
/-- What yields and touches nothing. -/
theorem Jl.yd (hy : Yd P N B o v L its ps) (hw : wants ops L o = some true) (hd : o.dst = some d) (hN : Nat.blt d N = true) (h : Jl P N B D (k + 1) ops Q rest ((d, v) :: L) its ps) : Jl P N B D k ops Q (o :: rest) L its ps := by
  refine ⟨?_⟩
  intro a w hf hW
  unfold runG
  by_cases ht : D.takes k = true
  · rw [if_pos ht]
    refine ⟨v, .inl ⟨hf.wants hw, fun W hb => hy a W hf (hW.call hb)⟩, ?_⟩
    rw [hd]
    exact h _ _ (hf.put hN _) hW
  · rw [if_neg ht, if_pos (hf.wants hw)]
    unfold Oper.wp
    rw [hy a w hf hW, Oper.upon_value, hd]
    exact ⟨fun _ => Below.refl _ _, h _ _ (hf.put hN _) hW⟩
/-- Not carried out. -/
theorem Jl.off (hw : wants ops L o = some false) (hd : o.dst = some d) (hN : Nat.blt d N = true) (h : Jl P N B D (k + 1) ops Q rest ((d, undef) :: L) its ps) : Jl P N B D k ops Q (o :: rest) L its ps := by
  refine ⟨?_⟩
  intro a w hf hW
  unfold runG
  by_cases ht : D.takes k = true
  · rw [if_pos ht]
    refine ⟨undef, .inr ⟨hf.wants hw, rfl⟩, ?_⟩
    rw [hd]
    exact h _ _ (hf.put hN _) hW
  · rw [if_neg ht, if_neg (by rw [hf.wants hw]; simp), hd]
    exact h _ _ (hf.put hN _) hW
/-- A Bool in a slot: both cases. -/
theorem Jl.split (t : Nat) (hb : lk L t = some (.bool b)) (ht : b = true → Jl P N B D k ops Q rest ((t, .bool true) :: L) its ps) (hf : b = false → Jl P N B D k ops Q rest ((t, .bool false) :: L) its ps) : Jl P N B D k ops Q rest L its ps := by
  refine ⟨?_⟩
  intro a w hF hW
  cases hb' : b with
  | true => exact ht hb' a w ⟨hF.size, hF.defers, fun s u hs => by
      unfold lk at hs
      by_cases e : t = s
      · subst e
        rw [show Nat.beq t t = true by simp] at hs
        rw [hF.at_ t _ hb, hb']; simpa using hs
      · rw [beq_no e] at hs; exact hF.at_ s u hs⟩ hW
  | false => exact hf hb' a w ⟨hF.size, hF.defers, fun s u hs => by
      unfold lk at hs
      by_cases e : t = s
      · subst e
        rw [show Nat.beq t t = true by simp] at hs
        rw [hF.at_ t _ hb, hb']; simpa using hs
      · rw [beq_no e] at hs; exact hF.at_ s u hs⟩ hW
def gslot (ops : Array Oper) (o : Oper) : Option Nat := match o.guard with
  | none => none
  | some (j, _) => (ops[j]?).bind (·.dst)
/-- The guard of what comes next: both cases. -/
theorem Jl.splitG (hg : gslot ops o = some t) (hb : lk L t = some (.bool b)) (ht : b = true → Jl P N B D k ops Q (o :: rest) ((t, .bool true) :: L) its ps) (hf : b = false → Jl P N B D k ops Q (o :: rest) ((t, .bool false) :: L) its ps) : Jl P N B D k ops Q (o :: rest) L its ps := Jl.split t hb ht hf
/-- What stands in a slot, said otherwise. -/
theorem Jl.as (t : Nat) (v : Value) (hb : lk L t = some v2) (e : v2 = v) (h : Jl P N B D k ops Q rest ((t, v) :: L) its ps) : Jl P N B D k ops Q rest L its ps := by
  subst e
  refine ⟨?_⟩
  intro a w hF hW
  exact h a w ⟨hF.size, hF.defers, fun s x hs => by
      unfold lk at hs
      by_cases e : t = s
      · subst e
        rw [show Nat.beq t t = true by simp] at hs
        rw [hF.at_ t _ hb]; simpa using hs
      · rw [beq_no e] at hs; exact hF.at_ s x hs⟩ hW
def arOp : BinOp → Int → Int → Option Int
  | .add, p, q => some (p + q)
  | .sub, p, q => some (p - q)
  | .mul, p, q => some (p * q)
  | _, _, _ => none
def rlOp : BinOp → Int → Int → Option Prop
  | .eql, p, q => some (p = q)
  | .neq, p, q => some (p ≠ q)
  | .lss, p, q => some (p < q)
  | .leq, p, q => some (p ≤ q)
  | .gtr, p, q => some (p > q)
  | .geq, p, q => some (p ≥ q)
  | _, _, _ => none
def dcOp : BinOp → Int → Int → Option Bool
  | .eql, p, q => some (decide (p = q))
  | .neq, p, q => some (decide (p ≠ q))
  | .lss, p, q => some (decide (p < q))
  | .leq, p, q => some (decide (p ≤ q))
  | .gtr, p, q => some (decide (p > q))
  | .geq, p, q => some (decide (p ≥ q))
  | _, _, _ => none
def bbOp : BinOp → Bool → Bool → Option Bool
  | .eql, p, q => some (p == q)
  | .neq, p, q => some (p != q)
  | _, _, _ => none
namespace Y
variable {x y z : Operand}
theorem mv (hop : o.op = .move x) (hx : ev L x = some v) : Yd P N B o v L its ps := .mk <| fun a w hf _ => by
  unfold execOp; rw [hop]; simp [hf.ev hx]
theorem asg (hop : o.op = .assign x) (hx : ev L x = some v) : Yd P N B o v L its ps := .mk <| fun a w hf _ => by
  unfold execOp; rw [hop]; simp [hf.ev hx]
theorem pickT (hop : o.op = .pick x y z) (hx : ev L x = some (.bool true)) (hy : ev L y = some v) : Yd P N B o v L its ps := .mk <| fun a w hf _ => by
  unfold execOp; rw [hop]; simp [hf.ev hx, hf.ev hy, asBool]
theorem pickF (hop : o.op = .pick x y z) (hx : ev L x = some (.bool false)) (hz : ev L z = some v) : Yd P N B o v L its ps := .mk <| fun a w hf _ => by
  unfold execOp; rw [hop]; simp [hf.ev hx, hf.ev hz, asBool]
theorem ext {us : List Value} {i : Nat} (hop : o.op = .extract x i) (hx : ev L x = some (.tuple us.toArray)) (hv : us[i]? = some v) : Yd P N B o v L its ps := .mk <| fun a w hf _ => by
  unfold execOp; rw [hop]; simp [hf.ev hx, Instr.extract, hv]
/-- A binary operation on two numbers, or Bools, or texts: what it yields is told by its own run. -/
theorem bin {op : BinOp} {tx ty : TypeId} {p q : Value} (hop : o.op = .binOp op tx x y ty) (hx : ev L x = some p) (hy : ev L y = some q) (hr : ∀ w, (do eqGuard op tx x y p q; binOp op tx p q : Sem Value).run P w = .ok v w) : Yd P N B o v L its ps := .mk <| fun a w hf _ => by
  unfold execOp; rw [hop]; simp only [hf.ev hx, hf.ev hy]
  rw [Sem.run_bind, hr w]; rfl
theorem un {op : UnOp} {tx : TypeId} {p : Value} (hop : o.op = .unOp op tx x) (hx : ev L x = some p) (hr : ∀ w, (Op.unary op p).run P w = .ok v w) : Yd P N B o v L its ps := .mk <| fun a w hf _ => by
  unfold execOp; rw [hop]; simp only [hf.ev hx]
  rw [Sem.run_bind, hr w]; rfl
theorem cmp {op : BinOp} {tx ty : TypeId} {k : IntKind} {p q : Int} (hop : o.op = .binOp op tx x y ty) (hx : ev L x = some (.int k p)) (hy : ev L y = some (.int k q)) (hr : dcOp op p q = some b) : Yd P N B o (.bool b) L its ps := by
  refine bin hop hx hy (fun w => ?_)
  have e1 : (p == q) = decide (p = q) := by simp [BEq.beq]
  have e2 : (p != q) = decide (p ≠ q) := by simp [bne, e1]
  cases op <;> simp only [arOp, rlOp, dcOp, bbOp, Option.some.injEq, reduceCtorEq] at hr <;> subst hr <;> simp [eqGuard, binOp, Op.intCmp, e1, e2]
theorem cmpF {op : BinOp} {tx ty : TypeId} {k : IntKind} {p q : Int} {φ : Prop} (hop : o.op = .binOp op tx x y ty) (hx : ev L x = some (.int k p)) (hy : ev L y = some (.int k q)) (hr : rlOp op p q = some φ) (hn : ¬ φ) : Yd P N B o (.bool false) L its ps := by
  refine cmp (P := P) (N := N) (B := B) (its := its) (ps := ps) hop hx hy ?_
  cases op <;> simp only [arOp, rlOp, dcOp, bbOp, Option.some.injEq, reduceCtorEq] at hr ⊢ <;> subst hr <;> exact decide_eq_false hn
theorem cmpT {op : BinOp} {tx ty : TypeId} {k : IntKind} {p q : Int} {φ : Prop} (hop : o.op = .binOp op tx x y ty) (hx : ev L x = some (.int k p)) (hy : ev L y = some (.int k q)) (hr : rlOp op p q = some φ) (hn : φ) : Yd P N B o (.bool true) L its ps := by
  refine cmp (P := P) (N := N) (B := B) (its := its) (ps := ps) hop hx hy ?_
  cases op <;> simp only [arOp, rlOp, dcOp, bbOp, Option.some.injEq, reduceCtorEq] at hr ⊢ <;> subst hr <;> exact decide_eq_true hn
theorem cmpB {op : BinOp} {tx ty : TypeId} {p q : Bool} (ht : P.underlying tx = some .bool) (hop : o.op = .binOp op tx x y ty) (hx : ev L x = some (.bool p)) (hy : ev L y = some (.bool q)) (hr : bbOp op p q = some b) : Yd P N B o (.bool b) L its ps := by
  refine bin hop hx hy (fun w => ?_)
  have h1 := run_eql_bool (P := P) (w := w) tx p q ht
  have h2 := run_neq_bool (P := P) (w := w) tx p q ht
  cases op <;> simp only [arOp, rlOp, dcOp, bbOp, Option.some.injEq, reduceCtorEq] at hr <;> subst hr
  · rw [Sem.run_bind]; simp [eqGuard, h1]
  · rw [Sem.run_bind]; simp [eqGuard, h2]; cases p <;> cases q <;> rfl
theorem arith {op : BinOp} {tx ty : TypeId} {k : IntKind} {p q r : Int} (hop : o.op = .binOp op tx x y ty) (hx : ev L x = some (.int k p)) (hy : ev L y = some (.int k q)) (hr : arOp op p q = some r) : Yd P N B o (.int k (k.wrap r)) L its ps := by
  refine bin hop hx hy (fun w => ?_)
  cases op <;> simp only [arOp, rlOp, dcOp, bbOp, Option.some.injEq, reduceCtorEq] at hr <;> subst hr <;> simp [eqGuard, binOp, Op.intArith]
theorem neqB {tx ty : TypeId} {p : Bool} (hop : o.op = .binOp .neq tx x y ty) (hx : ev L x = some (.bool p)) (hy : ev L y = some (.bool p)) (ht : P.underlying tx = some .bool) : Yd P N B o (.bool false) L its ps :=
  cmpB ht hop hx hy (by simp [bbOp])
theorem arith64 {op : BinOp} {tx ty : TypeId} {p q r : Int} (hop : o.op = .binOp op tx x y ty) (hx : ev L x = some (.int .i64 p)) (hy : ev L y = some (.int .i64 q)) (hr : arOp op p q = some r) : Yd P N B o (.int .i64 (wrap64 r)) L its ps := by
  have := arith (P := P) (N := N) (B := B) (its := its) (ps := ps) hop hx hy hr
  rw [IntKind.wrap_i64] at this
  unfold wrap64
  exact this
/-- 64 bits, within bounds. -/
theorem arithN {op : BinOp} {tx ty : TypeId} {p q r : Int} (hop : o.op = .binOp op tx x y ty) (hx : ev L x = some (.int .i64 p)) (hy : ev L y = some (.int .i64 q)) (hr : arOp op p q = some r) (hb : -9223372036854775808 ≤ r ∧ r ≤ 9223372036854775807) : Yd P N B o (.int .i64 r) L its ps := by
  have := arith (P := P) (N := N) (B := B) (its := its) (ps := ps) hop hx hy hr
  rw [IntKind.wrap_i64] at this
  have e : (r + 9223372036854775808) % 18446744073709551616 - 9223372036854775808 = r := by omega
  rwa [e] at this
theorem not (hop : o.op = .unOp .not T x) (hx : ev L x = some (.bool b)) : Yd P N B o (.bool (!b)) L its ps := un hop hx (fun w => by simp [Op.unary])
theorem lenS {ts : Array TypeId} {A : Option Addr} {m c e : Nat} (ht : P.underlying T = some (.slice e)) (hop : o.op = .call { callee := .builtin .len, args := #[x], argTypes := ts }) (hts : ts[0]? = some T) (hx : ev L x = some (.slice A m c)) : Yd P N B o (.int .i64 m) L its ps := .mk <| fun a w hf _ => by
  unfold execOp; rw [hop]
  simp [resolve, invoke, builtin, Builtin.len_, hts, hf.ev hx, run_underlying ht, goInt]
end Y
end
end Go.Proofs.YtkglpfdoefdhdaaW.SL

namespace Go.Proofs.YtkglpfdoefdhdaaW.SL
open Go Go.RowKit Go.Proofs.YtkglpfdoefdhdaaW.PrintWords
set_option linter.unusedSimpArgs false
set_option linter.unusedVariables false

/-! #### what is asked of types -/
def aggT (P : Program) (T : TypeId) : Option Nat := match P.underlying T with
  | some (.struct _) => (P.info? T).map (·.size)
  | some (.array _ _) => (P.info? T).map (·.size)
  | _ => none
def scT (P : Program) (T : TypeId) : Bool := match P.underlying T with
  | some (.struct _) => false
  | some (.array _ _) => false
  | some _ => decide ((P.info? T).map (·.size) = some 1)
  | none => false
def zeroT (P : Program) (T : TypeId) : Option (List Value) := ((P.info? T).bind (·.zero)).map (·.cells.toList)
def elT (P : Program) (T : TypeId) : Option (TypeId × Nat) := match P.underlying T with
  | some (.slice e) => (P.info? e).map fun i => (e, i.size)
  | _ => none
/-! Facts on types and functions, in structures (two of them that do not fit are told apart at once). -/
structure AggT (P : Program) (T m : Nat) : Prop where mk :: (out : aggT P T = some m)
structure ScT (P : Program) (T : Nat) : Prop where mk :: (out : scT P T = true)
structure ZeroT (P : Program) (T : Nat) (zs : List Value) : Prop where mk :: (out : zeroT P T = some zs)
structure SzT (P : Program) (T m : Nat) : Prop where mk :: (out : (P.info? T).map (·.size) = some m)
structure ElT (P : Program) (T e m : Nat) : Prop where mk :: (out : elT P T = some (e, m))
structure Ent (P : Program) (f : Nat) : Prop where mk :: (out : ∀ args w, (callFunc f args).run P w = .ok (.enter f args) w)
def allOne : List Value → Bool
  | [] => true
  | v :: r => v.oneCell' && allOne r
theorem allOne_mem : ∀ {us : List Value}, allOne us = true → ∀ u ∈ us, u.oneCell' = true
  | [], _, u, hu => by cases hu
  | v :: r, h, u, hu => by
    unfold allOne at h
    rw [Bool.and_eq_true] at h
    rcases List.mem_cons.1 hu with rfl | hu
    · exact h.1
    · exact allOne_mem h.2 u hu
/-- Item i of its is i' in its'. -/
inductive SetAt (i i' : Item) : List Item → List Item → Prop
  | z {r} : SetAt i i' (i :: r) (i' :: r)
  | s {j r r'} : SetAt i i' r r' → SetAt i i' (j :: r) (j :: r')
theorem SetAt.at {i i' : Item} : ∀ {its its' : List Item}, SetAt i i' its its' → ∃ n, its[n]? = some i ∧ its' = its.set n i'
  | _, _, .z => ⟨0, rfl, rfl⟩
  | _, _, .s h => by
    obtain ⟨n, h1, h2⟩ := SetAt.at h
    exact ⟨n + 1, by simpa using h1, by simp [h2]⟩
/-- Item i taken out of its. -/
inductive OutAt (i : Item) : List Item → List Item → Prop
  | z {r} : OutAt i (i :: r) r
  | s {j r r'} : OutAt i r r' → OutAt i (j :: r) (j :: r')
theorem OutAt.at {i : Item} : ∀ {its its' : List Item}, OutAt i its its' → ∃ n, its[n]? = some i ∧ its' = its.eraseIdx n
  | _, _, .z => ⟨0, rfl, rfl⟩
  | _, _, .s h => by
    obtain ⟨n, h1, h2⟩ := OutAt.at h
    exact ⟨n + 1, by simpa using h1, by simp [h2]⟩
/-- Cell n of cs is v in cs'. -/
inductive PutAt (v : Value) : Nat → List Value → List Value → Prop
  | z {u r} : PutAt v 0 (u :: r) (v :: r)
  | s {n u r r'} : PutAt v n r r' → PutAt v (n + 1) (u :: r) (u :: r')
theorem PutAt.wr {v : Value} : ∀ {n : Nat} {cs cs' : List Value}, PutAt v n cs cs' → n + 1 ≤ cs.length ∧ cs' = cs.take n ++ ([v] ++ cs.drop (n + 1))
  | _, _, _, .z => ⟨by simp, by simp⟩
  | _, _, _, .s h => by
    obtain ⟨h1, h2⟩ := PutAt.wr h
    exact ⟨by simp; omega, by simp [h2]⟩
/-- Cells written from off on. -/
def wr (cs : List Value) (off : Nat) (us : List Value) : List Value := cs.take off ++ (us ++ cs.drop (off + us.length))

section
variable {P : Program} {w : World}
theorem run_zeroT {T : TypeId} {zs : List Value} (h : zeroT P T = some zs) : ∃ z, (zeroValue T).run P w = .ok z w ∧ z.cells.toList = zs := by
  unfold zeroT at h
  cases hi : P.info? T with
  | none => simp [hi] at h
  | some i =>
    cases hz : i.zero with
    | none => simp [hi, hz] at h
    | some z =>
      simp only [hi, Option.bind_some, hz, Option.map_some, Option.some.injEq] at h
      exact ⟨z, by simp [zeroValue, typeInfo, hi, hz], h⟩
theorem aggT_run {T : TypeId} {m : Nat} (h : aggT P T = some m) : (isAgg T).run P w = .ok true w ∧ (sizeOf T).run P w = .ok m w := by
  unfold aggT at h
  cases hu : P.underlying T with
  | none => simp [hu] at h
  | some d =>
    have hs : (P.info? T).map (·.size) = some m ∧ ((match d with | .struct _ | .array _ _ => true | _ => false) = true) := by
      cases d <;> simp_all
    obtain ⟨i, hi, rfl⟩ := Option.map_eq_some_iff.1 hs.1
    refine ⟨?_, by simp [sizeOf, typeInfo, hi]⟩
    unfold isAgg
    rw [Sem.run_bind, run_underlying hu w]
    have := hs.2
    cases d <;> simp_all
theorem scT_run {T : TypeId} (h : scT P T = true) : (isAgg T).run P w = .ok false w ∧ (sizeOf T).run P w = .ok 1 w := by
  unfold scT at h
  cases hu : P.underlying T with
  | none => simp [hu] at h
  | some d =>
    have hs : (P.info? T).map (·.size) = some 1 ∧ ((match d with | .struct _ | .array _ _ => true | _ => false) = false) := by
      cases d <;> simp_all
    obtain ⟨i, hi, hi1⟩ := Option.map_eq_some_iff.1 hs.1
    refine ⟨?_, by simp [sizeOf, typeInfo, hi, hi1]⟩
    unfold isAgg
    rw [Sem.run_bind, run_underlying hu w]
    have := hs.2
    cases d <;> simp_all
theorem run_load_agg {T : TypeId} {ad : Addr} {us : List Value} (h : aggT P T = some us.length) (hc : Cells w ad us) : (Instr.loadAt T (.pointer (some ad))).run P w = .ok (.agg us.toArray) w := by
  obtain ⟨h1, h2⟩ := aggT_run (w := w) h
  have hl : (loadCells ad us.length).run P w = .ok us.toArray w := run_loadCells_list (P := P) w ad us hc
  simp [Instr.loadAt, Instr.sureAddr, loadVar, h1, h2, hl]
theorem run_load_one {T : TypeId} {ad : Addr} {u : Value} (h : scT P T = true) (hc : w.cell? ad = some u) : (Instr.loadAt T (.pointer (some ad))).run P w = .ok u w := by
  obtain ⟨h1, h2⟩ := scT_run (w := w) h
  simp [Instr.loadAt, Instr.sureAddr, loadVar, h1, load, Sem.run, hc]
theorem run_indexAt {T e size len c : Nat} {ad : Addr} {k : IntKind} {i : Int} (h : elT P T = some (e, size)) (h0 : 0 ≤ i) (h1 : i < (len : Int)) : (Instr.indexAt T (.slice (some ad) len c) (.int k i)).run P w = .ok (.pointer (some (ad.add (i.toNat * size)))) w := by
  unfold elT at h
  cases hu : P.underlying T with
  | none => simp [hu] at h
  | some d =>
    cases d <;> simp [hu] at h
    rename_i e'
    obtain ⟨j, hj, rfl, rfl⟩ := h
    simp [Instr.indexAt, run_underlying hu, asIntOf, h0, h1, sizeOf, typeInfo, hj]
theorem storeCells_run {g T : Nat} : ∀ (us : List Value) (i : Nat) (ad : Addr) (cs : List Value) (w : World), ad.block = g → ad.spot = none → w.heap[g]? = some (.cells cs.toArray T (0, 0)) → ad.off + i + us.length ≤ cs.length → (∀ u ∈ us, u.oneCell' = true) →
    ∃ w', (storeCells ad us i).run P w = .ok () w' ∧ w'.heap[g]? = some (.cells (wr cs (ad.off + i) us).toArray T (0, 0)) ∧ w'.os = w.os ∧ w'.tape = w.tape ∧ w'.output = w.output ∧ w'.heap.size = w.heap.size ∧ ∀ k, k ≠ g → w'.heap[k]? = w.heap[k]?
  | [], i, ad, cs, w, hb, hs, hg, hl, h1 => ⟨w, by simp [storeCells], by simpa [wr] using hg, rfl, rfl, rfl, rfl, fun _ _ => rfl⟩
  | u :: r, i, ad, cs, w, hb, hs, hg, hl, h1 => by
    have hlt : ad.off + i < cs.length := by simp at hl; omega
    have hadd : ad.add i = ⟨g, ad.off + i, none⟩ := by
      unfold Addr.add
      split
      · rename_i h0; subst h0; cases ad; simp_all
      · cases ad; simp_all
    have hcell : w.cell? ⟨g, ad.off + i, none⟩ = some cs[ad.off + i] := by simp [World.cell?, hg, hlt]
    have hfro : w.frozen? ⟨g, ad.off + i, none⟩ = false := by simp [World.frozen?, hg]
    have hst : (store (ad.add i) u).run P w = .ok () (w.setCell ⟨g, ad.off + i, none⟩ u) := by
      rw [hadd, run_store P w _ u _ (h1 u (by simp)), hcell]
      simp [hfro]
    have hg' := blk_set hg (ad.off + i) u
    have hg'' : (w.setCell ⟨g, ad.off + i, none⟩ u).heap[g]? = some (.cells (cs.set (ad.off + i) u).toArray T (0, 0)) := by rw [hg']; simp
    obtain ⟨w', e1, e2, e3, e4, e5, e6, e7⟩ := storeCells_run r (i + 1) ad (cs.set (ad.off + i) u) _ hb hs hg'' (by simp at hl ⊢; omega) (fun x hx => h1 x (by simp [hx]))
    refine ⟨w', by simp only [storeCells, Sem.run_bind, hst, Result.andThen_ok, e1], ?_, e3, e4, e5, by rw [e6]; simp, fun k hk => (e7 k hk).trans (Below.heap_setCell w ⟨g, ad.off + i, none⟩ u k hk)⟩
    rw [e2]
    congr 3
    unfold wr
    rw [show ad.off + (i + 1) = (ad.off + i) + 1 by omega]
    generalize ad.off + i = m at hlt
    apply List.ext_getElem?
    intro k
    simp only [List.getElem?_append, List.length_take, List.length_set, List.length_cons, List.getElem?_drop, List.getElem?_take, List.getElem?_set]
    by_cases hk : k < m
    · simp [show min m cs.length = m by omega, show min (m + 1) cs.length = m + 1 by omega, hk, show k < m + 1 by omega, show ¬ m = k by omega]
    · by_cases hk2 : k = m
      · subst hk2
        simp [show min k cs.length = k by omega, show min (k + 1) cs.length = k + 1 by omega, hlt]
      · have h3 : ¬ k < m + 1 := by omega
        simp only [show min m cs.length = m by omega, show min (m + 1) cs.length = m + 1 by omega, if_neg hk, if_neg h3]
        rw [show k - m = (k - (m + 1)) + 1 by omega]
        simp only [List.getElem?_cons_succ]
        by_cases h4 : k - (m + 1) < r.length
        · simp [h4]
        · simp [h4, Nat.add_assoc, Nat.add_comm 1, show ¬ m = m + 1 + r.length + (k - (m + 1) - r.length) by omega, show m + (r.length + 1) + (k - (m + 1) + 1 - (r.length + 1)) = m + 1 + r.length + (k - (m + 1) - r.length) by omega]
end

section
variable {P : Program} {N : Nat} {B : Base} {L L' : Sl} {its its' : List Item} {ps ps' : List (World → Prop)} {Q : Exit → Act → World → Prop} {D : Dm} {k : Nat} {ops : Array Oper} {rest : List Oper} {o : Oper} {d T n m : Nat} {v v2 : Value} {b : Bool} {x y z : Operand} {cs zs us : List Value} {g off T' : Nat} {ad : Addr}
theorem Box_at {w : World} (h : WS B w its ps) (hn : Item.box g T' cs ∈ its) : w.heap[g]? = some (.cells cs.toArray T' (0, 0)) := by
  obtain ⟨_, S, h2, _, _⟩ := h
  obtain ⟨n, hn⟩ := List.mem_iff_getElem?.1 hn
  obtain ⟨A, g1, _⟩ := h2.focus hn
  exact g1.1
theorem Box_cells {w : World} (h : w.heap[g]? = some (.cells cs.toArray T' (0, 0))) (off : Nat) : Cells w ⟨g, off, none⟩ (cs.drop off) := by
  intro j u hu
  have : (⟨g, off, none⟩ : Addr).add j = ⟨g, off + j, none⟩ := by unfold Addr.add; split <;> simp_all
  rw [this, blk_cell h]
  simpa using hu
namespace Y
theorem loadA (hop : o.op = .load T x) (hx : ev L x = some (.pointer (some ⟨g, 0, none⟩))) (hT : AggT P T m) (hn : Item.box g T' cs ∈ its) (hl : Nat.beq cs.length m = true) : Yd P N B o (.agg cs.toArray) L its ps := .mk <| fun a w hf hW => by
  obtain rfl := Nat.eq_of_beq_eq_true hl
  have hc := Box_cells (Box_at hW hn) 0
  simp only [List.drop_zero] at hc
  unfold execOp; rw [hop]; simp [hf.ev hx, run_load_agg hT.out hc]
theorem idx {e size len c : Nat} {k : IntKind} {i : Int} (hop : o.op = .indexAddr T x y) (hx : ev L x = some (.slice (some ad) len c)) (hy : ev L y = some (.int k i)) (hT : ElT P T e size) (h0 : 0 ≤ i) (h1 : i < (len : Int)) : Yd P N B o (.pointer (some (ad.add (i.toNat * size)))) L its ps := .mk <| fun a w hf hW => by
  unfold execOp; rw [hop]; simp [hf.ev hx, hf.ev hy, run_indexAt hT.out h0 h1]
end Y
theorem WS.alloc {w : World} (h : WS B w its ps) (T : Nat) (cs : Array Value) : WS B (w.alloc (.cells cs T)) (.box w.heap.size T cs.toList :: its) ps :=
  h.new (below_alloc (Below.refl _ _) _) (A := fun k => k = w.heap.size) ⟨by simpa using heap_alloc_new w (.cells cs T), fun k => Iff.rfl⟩ (fun k hk => by rw [hk]; exact Nat.le_refl _)
theorem Jl.alloc (hw : wants ops L o = some true) (hop : o.op = .alloc T) (hd : o.dst = some d) (hN : Nat.blt d N = true) (hz : ZeroT P T zs)
    (h : ∀ g, Jl P N B D (k + 1) ops Q rest ((d, .pointer (some ⟨g, 0, none⟩)) :: L) (Item.box g T zs :: its) ps) (hD : D.takes k = false := by rfl) : Jl P N B D k ops Q (o :: rest) L its ps :=
  Jl.e (fun g : Nat => .pointer (some ⟨g, 0, none⟩)) (fun g => Item.box g T zs :: its) (fun _ => ps) hw hd hN (fun a w hf hW => by
    obtain ⟨z, h1, h2⟩ := run_zeroT (w := w) hz.out
    refine ⟨w.heap.size, w.alloc (.cells z.cells T), ?_, fun _ => below_alloc (Below.refl _ _) _, ?_⟩
    · unfold execOp; rw [hop]; simp [Instr.alloc, h1, newVar, newRow]
    · have := hW.alloc T z.cells
      rwa [h2] at this) h hD
theorem Jl.box (hw : wants ops L o = some true) (hop : o.op = .box T x) (hd : o.dst = some d) (hN : Nat.blt d N = true) (hx : ev L x = some v) (hz : v.cells.toList = zs)
    (h : ∀ g, Jl P N B D (k + 1) ops Q rest ((d, .pointer (some ⟨g, 0, none⟩)) :: L) (Item.box g T zs :: its) ps) (hD : D.takes k = false := by rfl) : Jl P N B D k ops Q (o :: rest) L its ps :=
  Jl.e (fun g : Nat => .pointer (some ⟨g, 0, none⟩)) (fun g => Item.box g T zs :: its) (fun _ => ps) hw hd hN (fun a w hf hW => by
    refine ⟨w.heap.size, w.alloc (.cells v.cells T), ?_, fun _ => below_alloc (Below.refl _ _) _, ?_⟩
    · unfold execOp; rw [hop]; simp [Instr.box, newVar, newRow, hf.ev hx]
    · have := hW.alloc T v.cells
      rwa [hz] at this) h hD
theorem store_run {o : Oper} {a : Act} {w : World} (hop : o.op = .store T x y) (hx : a.eval x = .pointer (some ⟨g, off, none⟩)) (hy : a.eval y = v) (hu : v.cells.toList = us) (hT : (P.info? T).map (·.size) = some us.length) (hg : w.heap[g]? = some (.cells cs.toArray T' (0, 0))) (hl : off + us.length ≤ cs.length) (h1 : ∀ u ∈ us, u.oneCell' = true) :
    ∃ w', (execOp a.eval o).run P w = .ok .skip w' ∧ w'.heap[g]? = some (.cells (wr cs off us).toArray T' (0, 0)) ∧ Aft (fun k => k = g) w w' := by
  obtain ⟨w', e1, e2, e3, e4, e5, e6, e7⟩ := storeCells_run (P := P) us 0 ⟨g, off, none⟩ cs w rfl rfl hg (by simpa using hl) h1
  refine ⟨w', ?_, e2, e3, e4, e5, by omega, fun k _ hk => e7 k hk⟩
  unfold execOp; rw [hop]
  obtain ⟨i, hi, hi2⟩ := Option.map_eq_some_iff.1 hT
  have hsz : v.cells.size = us.length := by rw [← hu]; simp
  simp only [hx, hy]
  simp [Instr.storeAt, Instr.sureAddr, storeVar, sizeOf, typeInfo, hi, hi2, hsz, hu, e1]
/-- A whole record is stored into its block. -/
theorem Jl.storeA (hw : wants ops L o = some true) (hop : o.op = .store T x y) (hd : o.dst = none) (hx : ev L x = some (.pointer (some ⟨g, 0, none⟩))) (hy : ev L y = some (.agg us.toArray)) (hT : SzT P T us.length) (hn : SetAt (.box g T' cs) (.box g T' us) its its') (hl : Nat.beq us.length cs.length = true) (h1 : allOne us = true)
    (h : Jl P N B D (k + 1) ops Q rest L its' ps) (hD : D.takes k = false := by rfl) (hE : D.needs k = false := by rfl) : Jl P N B D k ops Q (o :: rest) L its ps :=
  Jl.un its' hw hd (fun a w hf hW => by
    obtain ⟨n, hn0, rfl⟩ := hn.at
    have hg := Box_at hW (List.mem_of_getElem? hn0)
    obtain ⟨w', e1, e2, e3⟩ := store_run (P := P) (us := us) hop (hf.ev hx) (hf.ev hy) (by simp [Value.cells]) hT.out hg (by have := Nat.eq_of_beq_eq_true hl; omega) (allOne_mem h1)
    have e : wr cs 0 us = us := by unfold wr; simp [Nat.eq_of_beq_eq_true hl]
    rw [e] at e2
    exact ⟨w', e1, hW.upd hn0 (fun A hA hA0 => ⟨A, ⟨e2, hA.2⟩, fun k hk _ => hk, e3.os, e3.tape, e3.output, e3.size, fun k hk hn' => e3.block k hk (fun e => hn' ((hA.2 k).2 e))⟩)⟩) h hD hE
/-- A call by its contract. -/
theorem Jl.call {ι : Type} (I : ι → Prop) (val : ι → Value) (its' : ι → List Item) (ps' : ι → List (World → Prop)) {f : FuncId} {args : Array Operand} {ts : Array TypeId} {fi ca : Array Value} {vals : List Value} (hw : wants ops L o = some true) (hop : o.op = .call { callee := .value x, args := args, argTypes := ts }) (hd : o.dst = some d) (hN : Nat.blt d N = true)
    (hx : ev L x = some (.func (.func f) fi ca)) (he : Ent P f) (hargs : evs L args.toList = some vals)
    (hc : ∀ w, WS B w its ps → Calls P f (fi ++ vals.toArray ++ ca) w fun e w' => ∃ i, e = .returned (val i) ∧ I i ∧ WS B w' (its' i) (ps' i) ∧ (D.needs k = true → Below w.heap.size w w'))
    (h : ∀ i, I i → Jl P N B D (k + 1) ops Q rest ((d, val i) :: L) (its' i) (ps' i)) (hD : D.takes k = false := by rfl) : Jl P N B D k ops Q (o :: rest) L its ps := by
  refine ⟨?_⟩
  intro a w hf hW
  unfold runG
  rw [if_neg (by rw [hD]; simp), if_pos (hf.wants hw)]
  have hl := hf.evs hargs
  have ha : args.map a.eval = vals.toArray := by
    apply Array.toList_inj.1
    rw [Array.toList_map]; exact hl
  have hrun : (execOp a.eval o).run P w = .ok (.enter f (fi ++ vals.toArray ++ ca)) w := by
    unfold execOp; rw [hop]
    simp [resolve, hf.ev hx, Deferred.ofValue, invoke, ha, he.out]
  unfold Oper.wp
  rw [hrun, Oper.upon_enter]
  refine (hc w hW).mono ?_
  rintro e w' ⟨i, rfl, hi, hW', hb⟩
  refine ⟨hb, ?_⟩
  rw [hd]
  exact h i hi _ _ (hf.put hN _) hW'
/-- A call of a function by its name, that only makes; one answer. -/
theorem Jl.call1 {f : FuncId} {args : Array Operand} {ts : Array TypeId} {vals : List Value} (hw : wants ops L o = some true) (hop : o.op = .call { callee := .value (.func f), args := args, argTypes := ts }) (hd : o.dst = some d) (hN : Nat.blt d N = true)
    (he : Ent P f) (hargs : evs L args.toList = some vals)
    (hc : ∀ w, WS B w its ps → Calls P f vals.toArray w fun e w' => e = .returned v ∧ Below w.heap.size w w')
    (h : Jl P N B D (k + 1) ops Q rest ((d, v) :: L) its ps) (hD : D.takes k = false := by rfl) : Jl P N B D k ops Q (o :: rest) L its ps :=
  Jl.call (ι := Unit) (fun _ => True) (fun _ => v) (fun _ => its) (fun _ => ps) hw hop hd hN rfl he hargs (fun w hW => by
    simp only [Array.empty_append, Array.append_empty]
    exact (hc w hW).mono (fun e w' hh => ⟨(), hh.1, trivial, hW.call hh.2, fun _ => hh.2⟩)) (fun _ _ => h) hD
end
end Go.Proofs.YtkglpfdoefdhdaaW.SL

namespace Go.Proofs.YtkglpfdoefdhdaaW.SL
open Go Go.RowKit Go.Proofs.YtkglpfdoefdhdaaW.PrintWords
set_option linter.unusedSimpArgs false
set_option linter.unusedVariables false

section
variable {α : Type} {dk : Kd α} {e b : Nat} {B : Base} {w w' : World} {its its' : List Item} {ps ps' : List (World → Prop)} {xs : List α} {v : Value} {ok : Nat → Prop}
/-- A row that a call has made. -/
theorem WS.rowR (h : WS B w its ps) (hb : Below w.heap.size w w') (hr : dk.R e w' w.heap.size ok v xs) (hB : b ≤ w.heap.size) : WS B w' (.row dk e b v xs :: its) ps :=
  h.new hb (A := fun k => w.heap.size ≤ k ∧ k < w'.heap.size) ⟨Kd.R_lower (Kd.R_mono (Kd.R_bound hr) (fun k hk => ⟨hk.2.1, hk.2.2.1⟩)) hB, fun k hk => hk.2⟩ (fun k hk => hk.1)
theorem WS.rowC {A : Option Addr} {n c : Nat} (h : WS B w its ps) (hi : Item.row dk e b (.slice A n c) xs ∈ its) : dk.C w A xs.length xs := by
  obtain ⟨S, hS⟩ := h.item hi
  exact (Kd.R_reads' hS.1).2.2
theorem WS.rowCap {A : Option Addr} {n c : Nat} (h : WS B w its ps) (hi : Item.row dk e b (.slice A n c) xs ∈ its) : n = xs.length ∧ xs.length ≤ c := by
  obtain ⟨S, hS⟩ := h.item hi
  have := Kd.R_reads' hS.1
  omega
theorem Aft.of_kept {w0 : World} {S : Nat → Prop} (hk : Kept w w' S) (h0 : Below w0.heap.size w0 w) (h1 : Below w0.heap.size w0 w') : Aft S w w' := ⟨h1.os.trans h0.os.symm, h1.tape.trans h0.tape.symm, h1.output.trans h0.output.symm, hk.1, fun k hk' hn => hk.2 k hk' hn⟩
/-- A world without memory, ahead of w. -/
def bare (w : World) : World := { w with heap := #[] }
theorem bare_below (w : World) : Below (bare w).heap.size (bare w) w := ⟨rfl, rfl, rfl, by simp [bare], fun k hk => by simp [bare] at hk⟩
theorem bare_size (w : World) : (bare w).heap.size = 0 := by simp [bare]
end

section
variable {P : Program} {N : Nat} {B : Base} {L L' : Sl} {its its' : List Item} {ps ps' : List (World → Prop)} {Q : Exit → Act → World → Prop} {D : Dm} {k : Nat} {ops : Array Oper} {rest : List Oper} {o : Oper} {d T n m : Nat} {v v2 : Value} {x y z : Operand} {α β : Type} {dk : Kd α} {dl : Kd β} {e b : Nat}
/-- A call that hands back one row of its own (V: the whole answer around it). -/
theorem Jl.callR (b : Nat) (V : Value → Value) {xs : List α} {f : FuncId} {args : Array Operand} {ts : Array TypeId} {vals : List Value} (hw : wants ops L o = some true) (hop : o.op = .call { callee := .value (.func f), args := args, argTypes := ts }) (hd : o.dst = some d) (hN : Nat.blt d N = true)
    (he : Ent P f) (hargs : evs L args.toList = some vals)
    (hc : ∀ w, WS B w its ps → Calls P f vals.toArray w fun e' w' => ∃ v, e' = .returned (V v) ∧ dk.R e w' w.heap.size (fun _ => True) v xs ∧ Below w.heap.size w w')
    (h : ∀ A c, xs.length ≤ c → Jl P N B D (k + 1) ops Q rest ((d, V (.slice A xs.length c)) :: L) (.row dk e 0 (.slice A xs.length c) xs :: its) ps) (hD : D.takes k = false := by rfl) : Jl P N B D k ops Q (o :: rest) L its ps :=
  Jl.call (ι := Option Addr × Nat) (fun i => xs.length ≤ i.2) (fun i => V (.slice i.1 xs.length i.2)) (fun i => .row dk e 0 (.slice i.1 xs.length i.2) xs :: its) (fun _ => ps) hw hop hd hN rfl he hargs (fun w hW => by
    simp only [Array.empty_append, Array.append_empty]
    refine (hc w hW).mono ?_
    rintro e' w' ⟨v, rfl, hr, hb⟩
    obtain ⟨A, c, rfl, hl, _⟩ := Kd.R_reads hr
    exact ⟨(A, c), rfl, hl, hW.rowR hb hr (Nat.zero_le _), fun _ => hb⟩) (fun i hi => h i.1 i.2 hi) hD
/-- A call that writes what it is handed. -/
theorem Jl.callM (i i' : Item) {f : FuncId} {args : Array Operand} {ts : Array TypeId} {vals : List Value} (hw : wants ops L o = some true) (hop : o.op = .call { callee := .value (.func f), args := args, argTypes := ts }) (hd : o.dst = some d) (hN : Nat.blt d N = true)
    (he : Ent P f) (hargs : evs L args.toList = some vals) (hn : SetAt i i' its its')
    (hc : ∀ w A, WS B w its ps → i.p w A → Calls P f vals.toArray w fun e' w' => e' = .returned v ∧ ∃ A', i'.p w' A' ∧ (∀ k, A' k → k < w.heap.size → A k) ∧ Aft A w w')
    (h : Jl P N B D (k + 1) ops Q rest ((d, v) :: L) its' ps) (hD : D.takes k = false := by rfl) (hE : D.needs k = false := by rfl) : Jl P N B D k ops Q (o :: rest) L its ps := by
  obtain ⟨n, hn0, rfl⟩ := hn.at
  refine ⟨?_⟩
  intro a w hf hW
  obtain ⟨_, S, h2, h3, h4⟩ := id hW
  unfold runG
  rw [if_neg (by rw [hD]; simp), if_pos (hf.wants hw)]
  have hl := hf.evs hargs
  have ha : args.map a.eval = vals.toArray := by
    apply Array.toList_inj.1
    rw [Array.toList_map]; exact hl
  have hrun : (execOp a.eval o).run P w = .ok (.enter f vals.toArray) w := by
    unfold execOp; rw [hop]
    simp [resolve, Act.eval, Deferred.ofValue, invoke, ha, he.out]
  unfold Oper.wp
  rw [hrun, Oper.upon_enter]
  obtain ⟨A, g1, g2, g3⟩ := h2.focus hn0
  refine (hc w A hW g1).mono ?_
  rintro e' w' ⟨rfl, A', hA', hsub, haft⟩
  refine ⟨fun h' => (by rw [hE] at h'; cases h'), ?_⟩
  rw [hd]
  refine h _ _ (hf.put hN _) ⟨hW.aft.trans haft (fun k hk hlt => (h3 k (g2 k hk)).resolve_right (by omega)), _, g3 w' i' A' hA' haft.size (fun k hk => ?_) (fun k hs hn => haft.block k (h2.lt k hs) hn), ?_, fun p hp => (h4 p hp).step ⟨haft.os, haft.tape, haft.output, haft.size, fun k hk hn => haft.block k hk (fun ha => hn (g2 k ha))⟩ ?_⟩
  · by_cases hlt : k < w.heap.size
    · exact .inr (hsub k hk hlt)
    · exact .inl (fun hs => hlt (h2.lt k hs))
  · rintro k (hk | hk)
    · by_cases hlt : k < w.heap.size
      · exact h3 k (g2 k (hsub k hk hlt))
      · exact .inr (Nat.le_trans hW.size (by omega))
    · exact h3 k hk.1
  · rintro k (hk | hk) hlt
    · exact g2 k (hsub k hk hlt)
    · exact hk.1
end
section
variable {α β : Type} {dk : Kd α} {di : Kd β} {e ei b g m cap : Nat} {B : Base} {w w' : World} {its its' : List Item} {ps ps' : List (World → Prop)} {xs : List α} {ys ys' : List β} {v u : Value} {i : Int} {c : List Value} {x' : α}
/-- The element back in its row: it is x' now. -/
theorem WS.back {n : Nat} (h : WS B w (.row di ei b u ys' :: its) ps) (hn : its[n]? = some (.lent dk e b v xs i c u)) (hE : di.E = [])
    (hM : ∀ (w : World) ok, di.R ei w b ok u ys' → dk.M w b ok x' c) : WS B w (its.set n (.rowS dk e b v (xs.set i.toNat x'))) ps := by
  obtain ⟨q1, S, q2, q3, q4⟩ := h
  refine ⟨q1, S, q2.one hn (fun A1 A2 h1 h2 h3 => ?_), q3, q4⟩
  obtain ⟨ok, oki, g1, g2, g3, g4⟩ := h1
  obtain ⟨r1, r2⟩ := h2
  obtain ⟨_, f, hR⟩ := g1
  have hH : Kd.H dk e w b (fun k => (ok k ∧ ¬ oki k) ∨ some k = u.ownBlock) v xs i (fun k => some k = u.ownBlock) c :=
    ⟨fun k hk => .inr hk, f, Kd.R_mono hR (fun k hk => ⟨.inl hk, fun he => hk.2 (g2 k he.symm)⟩)⟩
  have hS := Kd.S_bound (Kd.H_back hH (hM w _ (Kd.R_tight hE r1)) (fun k hk => hk))
  refine ⟨Kd.S_mono hS (fun k hk => ?_), fun k hk => ?_⟩
  · rcases hk.1 with h | h
    · exact .inl ((g3 k).2 ⟨h, hk.2.2.1⟩)
    · exact .inr (r1.1 k h.symm)
  · rcases hk with h | h
    · exact ((g3 k).1 h).2
    · exact r2 k h
end
section
variable {P : Program} {N : Nat} {B : Base} {L L' : Sl} {its its' : List Item} {ps ps' : List (World → Prop)} {Q : Exit → Act → World → Prop} {D : Dm} {k : Nat} {ops : Array Oper} {rest : List Oper} {o : Oper} {d T n m off j g cap : Nat} {v v2 u rv : Value} {x y z : Operand} {α β : Type} {dk : Kd α} {e b : Nat} {xs : List α} {i : Int} {c c' : List Value}
namespace Y
/-- An index into a row that lies at the head of its block. -/
theorem idx0 {size len cc e' : Nat} {k : IntKind} {i : Int} (hop : o.op = .indexAddr T x y) (hx : ev L x = some (.slice (some ⟨g, 0, none⟩) len cc)) (hy : ev L y = some (.int k i)) (hT : ElT P T e' size) (h0 : 0 ≤ i) (h1 : i < (len : Int)) : Yd P N B o (.pointer (some ⟨g, i.toNat * size, none⟩)) L its ps := by
  have h := idx (P := P) (N := N) (B := B) (its := its) (ps := ps) hop hx hy hT h0 h1
  have e : (⟨g, 0, none⟩ : Addr).add (i.toNat * size) = ⟨g, i.toNat * size, none⟩ := by unfold Addr.add; split <;> simp_all
  rwa [e] at h
end Y
end
end Go.Proofs.YtkglpfdoefdhdaaW.SL

namespace Go.Proofs.YtkglpfdoefdhdaaW.SL
open Go Go.RowKit Go.Proofs.YtkglpfdoefdhdaaW.PrintWords Go.Proofs.YtkglpfdoefdhdaaW.PrintLast
set_option linter.unusedSimpArgs false
set_option linter.unusedVariables false

universe u
section
variable {P : Program} {ops : Array Oper} {Q : Exit → Act → World → Prop} {md : Region.Mode} {ds : List Nat}
/-- Whatever order is picked from here on, and nothing that was there is written, but by ds. -/
def wpAnyB (P : Program) (md : Region.Mode) (ops : Array Oper) (Q : Exit → Act → World → Prop) (ds : List Nat) : Nat → Array Bool → Act → World → Prop
  | 0, listed, a, w => Region.ready md ops listed = [] ∧ Q .normal a w
  | fuel + 1, listed, a, w =>
    (Region.ready md ops listed = [] → Q .normal a w) ∧
    ∀ i ∈ Region.ready md ops listed, wpOp P ops Q i (fun a' w' => (i ∉ ds → Below w.heap.size w w') ∧ wpAnyB P md ops Q ds fuel (listed.setIfInBounds i true) a' w') a w
theorem wpAny_of_B : ∀ (fuel : Nat) (listed : Array Bool) (a : Act) (w : World), wpAnyB P md ops Q ds fuel listed a w → wpAny P md ops Q fuel listed a w
  | 0, _, _, _, h => h
  | fuel + 1, _, _, _, h => ⟨h.1, fun i hi => wpOp_mono (fun a' w' h' => wpAny_of_B fuel _ a' w' h'.2) (h.2 i hi)⟩
theorem yieldsIf_mono {S S' : World → Prop} {o : Oper} {v : Value} {a : Act} (h : YieldsIf P ops S o v a) (hs : ∀ w, S' w → S w) : YieldsIf P ops S' o v a :=
  h.imp (fun ⟨h1, h2⟩ => ⟨h1, fun w hw => h2 w (hs w hw)⟩) id
theorem wpAnyB_first {i : Nat} {oi : Oper} {v : Value} (hi : ops[i]? = some oi) (hsel : ∀ (j : Nat) (o : Oper) cs b, ops[j]? = some o → o.op ≠ .select cs b)
    (hQ : ∀ c a w, Q (.panic c) (a.put oi.dst v) w → Q (.panic c) a w) (n : Nat) :
    ∀ (fuel : Nat) (listed : Array Bool) (a : Act) (w : World),
      (∀ j oj, ops[j]? = some oj → j ≠ i → listed.getD j true = false → (∀ e ∈ oj.after, Region.binds md e = true → e.on ≠ i) → oi.apart ops oj = true) →
      ListedClosed md ops listed → (∀ d ∈ ds, listed.getD d true = false → Region.reachB md ops i n d = true) →
      i ∈ Region.ready md ops listed → YieldsIf P ops (fun W => Below w.heap.size w W) oi v a →
      wpAnyB P md ops Q ds fuel (listed.setIfInBounds i true) (a.put oi.dst v) w → wpAnyB P md ops Q ds (fuel + 1) listed a w := by
  intro fuel
  induction fuel with
  | zero =>
    intro listed a w _ _ _ hr hy H
    refine ⟨fun h => (by rw [h] at hr; cases hr), fun j hj => ?_⟩
    by_cases hji : j = i
    · subst hji; exact hy.wpOp hi (Below.refl _ _) ⟨fun _ => Below.refl _ _, H⟩
    · have := ready_mono hj hji
      rw [H.1] at this
      cases this
  | succ fuel ih =>
    intro listed a w hfree hc hd hr hy H
    refine ⟨fun h => (by rw [h] at hr; cases hr), fun j hj => ?_⟩
    by_cases hji : j = i
    · subst hji; exact hy.wpOp hi (Below.refl _ _) ⟨fun _ => Below.refl _ _, H⟩
    · have h1 := H.2 j (ready_mono hj hji)
      obtain ⟨hjun, oj, hoj, hall⟩ := mem_ready.1 hj
      have hiun := (mem_ready.1 hr).1
      have hnot : ∀ e ∈ oj.after, Region.binds md e = true → e.on ≠ i := fun e he hb heq => by
        have h1 := hall e he hb
        rw [heq] at h1
        rcases Nat.lt_or_ge i listed.size with h' | h'
        · simp [h'] at hiun h1; rw [hiun] at h1; cases h1
        · simp [Array.getElem?_eq_none h'] at h1
      have hjd : j ∉ ds := fun hm => Region.reach_not_ready hc (hd j hm hjun) hiun hj
      have h2 := wpOp_putIf hoj (hfree j oj hoj hji hjun hnot) (fun cs b => hsel i oi cs b hi) (fun cs b => hsel j oj cs b hoj) hQ hy h1
      have hfree' : ∀ k ok, ops[k]? = some ok → k ≠ i → (listed.setIfInBounds j true).getD k true = false →
          (∀ e ∈ ok.after, Region.binds md e = true → e.on ≠ i) → oi.apart ops ok = true := fun k ok hk hki hun hno => by
        refine hfree k ok hk hki ?_ hno
        by_cases hjk : j = k
        · subst hjk; exact hjun
        · rw [getD_set_ne true hjk] at hun; exact hun
      have hd' : ∀ d ∈ ds, (listed.setIfInBounds j true).getD d true = false → Region.reachB md ops i n d = true := fun d hm hun => by
        refine hd d hm ?_
        by_cases hjk : j = d
        · subst hjk; exact hjun
        · rw [getD_set_ne true hjk] at hun; exact hun
      refine wpOp_mono (fun a' w' h3 => ⟨h3.2.1, ih (listed.setIfInBounds j true) a' w' hfree' (hc.set hj) hd' (ready_mono hr (Ne.symm hji)) (yieldsIf_mono h3.1 (fun W hW => (h3.2.1 hjd).trans (hW.mono (h3.2.1 hjd).size))) ?_⟩) h2
      rw [Array.setIfInBounds_comm _ _ hji]
      exact h3.2.2
/-- May the operations be walked in the order ord? -/
def ordOk (T : Bool × List (List Nat × List Nat)) (ds : List Nat) (D : Dm) : Nat → List Nat → List Bool → Bool
  | _, [], l => readyT T.2 l == []
  | k, i :: r, l => (if D.takes k = true then takeT T ds l (l.set i true) i else (readyT T.2 l == [i]) && (D.needs k || ds.contains i)) && ordOk T ds D (k + 1) r (l.set i true)
theorem wpAnyB_of_run {D : Dm} (hQ : ∀ c a d v w, Q (.panic c) (Act.put a d v) w → Q (.panic c) a w) : ∀ (ord : List Nat) (k : Nat) (l : Array Bool) (a : Act) (w : World), ordOk (rtab md ops) ds D k ord l.toList = true → runG P ops Q D k (ord.filterMap (fun i => ops[i]?)) a w → wpAnyB P md ops Q ds ord.length l a w
  | [], k, l, a, w, h, hr => by
    simp only [ordOk, beq_iff_eq] at h
    rw [← ready_eq] at h
    exact ⟨h, hr⟩
  | i :: r, k, l, a, w, h, hr => by
    simp only [ordOk, Bool.and_eq_true] at h
    obtain ⟨h1, h2⟩ := h
    have hset : l.toList.set i true = (l.setIfInBounds i true).toList := by rw [Array.toList_setIfInBounds]
    by_cases ht : D.takes k = true
    · rw [if_pos ht] at h1
      have h3 := take_of (l := l) (l' := l.setIfInBounds i true) rfl (by rw [← hset]; exact h1)
      simp only [takeB, Bool.and_eq_true, beq_iff_eq] at h3
      obtain ⟨⟨⟨⟨⟨g1, g2⟩, g3⟩, g4⟩, g5⟩, _⟩ := h3
      have g3' : i ∈ Region.ready md ops l := by simpa using g3
      obtain ⟨_, o, ho, _⟩ := mem_ready.1 g3'
      rw [List.filterMap_cons, ho] at hr
      dsimp only at hr
      unfold runG at hr
      rw [if_pos ht] at hr
      obtain ⟨v, hy, hr⟩ := hr
      exact wpAnyB_first ho (Region.noSelect_spec g1) (fun c a w => hQ c a _ _ w) ops.size _ l a w (Region.free_spec ho g2) (Region.closedB_spec g4)
        (fun d hm hun => by have := List.all_eq_true.1 g5 d hm; rw [hun] at this; simpa using this) g3' hy (wpAnyB_of_run hQ r (k + 1) _ _ w (by rw [← hset]; exact h2) hr)
    · rw [if_neg ht] at h1
      simp only [Bool.and_eq_true, beq_iff_eq, Bool.or_eq_true] at h1
      obtain ⟨h3, h4⟩ := h1
      rw [← ready_eq] at h3
      have g3' : i ∈ Region.ready md ops l := by rw [h3]; simp
      obtain ⟨_, o, ho, _⟩ := mem_ready.1 g3'
      rw [List.filterMap_cons, ho] at hr
      dsimp only at hr
      unfold runG at hr
      rw [if_neg ht] at hr
      refine ⟨fun h0 => (by rw [h0] at g3'; cases g3'), fun j hj => ?_⟩
      rw [h3] at hj
      obtain rfl : j = i := by simpa using hj
      unfold wpOp
      rw [ho]
      dsimp only
      have hds : j ∉ ds → D.needs k = true := fun hn => h4.resolve_right (fun h => hn (by simpa using h))
      by_cases hw : Region.wanted o (yielded ops a.tmps) = true
      · rw [if_pos hw] at hr ⊢
        exact .inl (Oper.wp_mono (fun a' w' h' => ⟨fun hn => h'.1 (hds hn), wpAnyB_of_run hQ r (k + 1) _ _ w' (by rw [← hset]; exact h2) h'.2⟩) hr)
      · rw [if_neg hw] at hr ⊢
        exact ⟨fun _ => Below.refl _ _, wpAnyB_of_run hQ r (k + 1) _ _ w (by rw [← hset]; exact h2) hr⟩
theorem memH {α : Type u} {x : α} {l : List α} : x ∈ x :: l := .head _
theorem memT {α : Type u} {x y : α} {l : List α} (h : x ∈ l) : x ∈ y :: l := .tail _ h
def elemN (n : Nat) : List Nat → Bool
  | [] => false
  | m :: r => Nat.beq m n || elemN n r
/-- tk: the places taken first; nd: the places that write. -/
def mkD (tk nd : List Nat) : Dm := ⟨fun k => elemN k tk, fun k => !elemN k nd⟩
def drawOk (ops : Array Oper) (ds : List Nat) (D : Dm) (ord : List Nat) : Bool := ordOk (rtab .any ops) ds D 0 ord (List.replicate ops.size false) && Nat.beq ord.length ops.size
end
section
variable {P : Program} {N : Nat} {B : Base} {L L' : Sl} {its its' : List Item} {ps ps' : List (World → Prop)} {Q : Exit → Act → World → Prop} {ops : Array Oper} {c : Code}
theorem Cj.regionD {id : Nat} (hc : c = .region id ops true) (D : Dm) (ds : List Nat) (ord : List Nat) (hm : P.follows .mixedOrders = true) (hok : drawOk ops ds D ord = true)
    (h : Jl P N B D 0 ops Q (ord.filterMap (fun i => ops[i]?)) L its ps) (hQ : ∀ c a d v w, Q (.panic c) (Act.put a d v) w → Q (.panic c) a w := by intro c a d v w h; cases d <;> exact h) : Cj P N B c Q L its ps := by
  subst hc
  refine ⟨?_⟩
  intro a w hf hw
  refine wp_region_any hm ?_
  have hb : Below w.heap.size w { w with drawn := w.drawn + 1 } := ⟨rfl, rfl, rfl, Nat.le_refl _, fun _ _ => rfl⟩
  simp only [drawOk, Bool.and_eq_true] at hok
  have := wpAnyB_of_run (md := .any) hQ ord 0 (Array.replicate ops.size false) a { w with drawn := w.drawn + 1 } (by simpa using hok.1) (h a _ hf (hw.call hb))
  rw [Nat.eq_of_beq_eq_true hok.2] at this
  exact wpAny_of_B _ _ _ _ this
end
section
variable {P : Program} {N : Nat} {B : Base} {L L' : Sl} {its its' : List Item} {ps ps' : List (World → Prop)} {Q : Exit → Act → World → Prop} {D : Dm} {k : Nat} {ops : Array Oper} {rest : List Oper} {o : Oper} {d : Nat} {v v0 : Value} {us vs : List Value}
/-- A call that writes what its first argument leads to. -/
theorem Jl.callMv (I I' : Value → Item) {f : FuncId} {args : Array Operand} {ts : Array TypeId} (hw : wants ops L o = some true) (hop : o.op = .call { callee := .value (.func f), args := args, argTypes := ts }) (hd : o.dst = some d) (hN : Nat.blt d N = true)
    (he : Ent P f) (hargs : evs L args.toList = some (v0 :: vs)) (hn : SetAt (I v0) (I' v0) its its')
    (hc : ∀ w A, WS B w its ps → (I v0).p w A → Calls P f (v0 :: vs).toArray w fun e' w' => e' = .returned v ∧ ∃ A', (I' v0).p w' A' ∧ (∀ k, A' k → k < w.heap.size → A k) ∧ Aft A w w')
    (h : Jl P N B D (k + 1) ops Q rest ((d, v) :: L) its' ps) (hD : D.takes k = false := by rfl) (hE : D.needs k = false := by rfl) : Jl P N B D k ops Q (o :: rest) L its ps :=
  Jl.callM (I v0) (I' v0) hw hop hd hN he hargs hn hc h hD hE
end
end Go.Proofs.YtkglpfdoefdhdaaW.SL

namespace Go.Proofs.YtkglpfdoefdhdaaW.SL
open Go Go.RowKit Go.Proofs.YtkglpfdoefdhdaaW.PrintWords
set_option linter.unusedSimpArgs false
set_option linter.unusedVariables false
theorem WS.end1 {w w' : World} {S : Nat → Prop} {i : Item} {ps : List (World → Prop)} (h : WS ⟨w, S⟩ w' [i] ps) : ∃ S', i.p w' S' ∧ (∀ k, S' k → k < w.heap.size → S k) ∧ Aft S w w' := by
  obtain ⟨h1, T, ⟨A, C, g1, g2, g3, _⟩, h3, _⟩ := h
  exact ⟨A, g1, fun k hk hlt => (h3 k ((g3 k).2 (.inl hk))).resolve_right (by show ¬ w.heap.size ≤ k; omega), h1⟩
theorem Own.single {i : Item} {w : World} {S : Nat → Prop} (h : i.p w S) : Own [i] w S := ⟨S, fun _ => False, h, fun _ h => h, fun k => by simp, fun _ _ h => h⟩
/-- A printed contract of a function that writes one row. -/
theorem of_kept {α : Type} {dk : Kd α} {e : Nat} {P : Program} {f : FuncId} {args : Array Value} {w : World} {v r : Value} {xs xs' : List α} {A : Nat → Prop}
    (hA : (Item.row dk e 0 v xs).p w A)
    (hc : ∀ (P0 : Nat → Prop) (w0 : World), Below w0.heap.size w0 w → dk.R e w w0.heap.size P0 v xs → Calls P f args w fun e' w' => e' = .returned r ∧ dk.R e w' w0.heap.size (fun k => P0 k ∨ w.heap.size ≤ k) v xs' ∧ Below w0.heap.size w0 w' ∧ Kept w w' (fun k => P0 k)) :
    Calls P f args w fun e' w' => e' = .returned r ∧ ∃ A', (Item.row dk e 0 v xs').p w' A' ∧ (∀ k, A' k → k < w.heap.size → A k) ∧ Aft A w w' := by
  refine (hc A (bare w) (bare_below w) (by rw [bare_size]; exact hA.1)).mono ?_
  rintro e' w' ⟨rfl, h1, h2, h3⟩
  rw [bare_size] at h1
  refine ⟨rfl, fun k => (A k ∨ w.heap.size ≤ k) ∧ k < w'.heap.size, ⟨Kd.R_mono (Kd.R_bound h1) (fun k hk => ⟨hk.1, hk.2.2.1⟩), fun k hk => hk.2⟩, fun k hk hlt => hk.1.resolve_right (by omega), Aft.of_kept h3 (bare_below w) h2⟩
section
variable {P : Program} {N : Nat} {B : Base} {L : Sl} {its : List Item} {ps : List (World → Prop)} {Q : Exit → Act → World → Prop} {D : Dm} {k : Nat} {ops : Array Oper} {rest : List Oper} {o : Oper} {c : Code}
theorem gateO (h : Jl P N B D k ops Q (o :: rest) L its ps) : Jl P N B D k ops Q (o :: rest) L its ps := h
theorem gateE (h : Jl P N B D k ops Q [] L its ps) : Jl P N B D k ops Q [] L its ps := h
theorem gateC (h : Cj P N B c Q L its ps) : Cj P N B c Q L its ps := h
end
end Go.Proofs.YtkglpfdoefdhdaaW.SL

namespace Go.Proofs.YtkglpfdoefdhdaaW.SL
open Go Go.RowKit Go.Proofs.YtkglpfdoefdhdaaW.PrintWords
set_option linter.unusedSimpArgs false
set_option linter.unusedVariables false

/-- Element i's cells. -/
def rowOf (sz : Nat) (cs : List Value) (i : Nat) : List Value := (cs.drop (i * sz)).take sz
theorem rowOf_get {sz : Nat} {cs : List Value} {i k : Nat} (hk : k < sz) : (rowOf sz cs i)[k]? = cs[i * sz + k]? := by simp [rowOf, List.getElem?_take, hk]
theorem rowOf_ext {sz : Nat} {cs cs' : List Value} {i j : Nat} (h : ∀ k, k < sz → cs[i * sz + k]? = cs'[j * sz + k]?) : rowOf sz cs i = rowOf sz cs' j := by
  apply List.ext_getElem?
  intro k
  by_cases hk : k < sz
  · rw [rowOf_get hk, rowOf_get hk, h k hk]
  · simp [rowOf, List.getElem?_take, hk]
theorem wr_length {cs us : List Value} {off : Nat} (h : off + us.length ≤ cs.length) : (wr cs off us).length = cs.length := by
  unfold wr; simp; omega
theorem wr_get {cs us : List Value} {off j : Nat} (h : off + us.length ≤ cs.length) : (wr cs off us)[j]? = if j < off then cs[j]? else if j < off + us.length then us[j - off]? else cs[j]? := by
  unfold wr
  rw [List.getElem?_append, List.getElem?_append]
  simp only [List.length_take, show min off cs.length = off by omega]
  by_cases h1 : j < off
  · simp [h1, List.getElem?_take]
  · rw [if_neg h1, if_neg h1]
    by_cases h2 : j < off + us.length
    · rw [if_pos (by omega), if_pos h2]
    · rw [if_neg (by omega), if_neg h2, List.getElem?_drop]
      congr 1; omega
theorem rowOf_wr_eq {sz : Nat} {cs us : List Value} {i : Nat} (hu : us.length = sz) (h : i * sz + sz ≤ cs.length) : rowOf sz (wr cs (i * sz) us) i = us := by
  apply List.ext_getElem?
  intro k
  by_cases hk : k < sz
  · rw [rowOf_get hk, wr_get (by omega), if_neg (by omega), if_pos (by omega)]
    congr 1; omega
  · rw [List.getElem?_eq_none (by omega : us.length ≤ k)]
    simp [rowOf, List.getElem?_take, hk]
theorem mul_lt_step {i j sz : Nat} (h : i < j) : i * sz + sz ≤ j * sz := by
  have := Nat.mul_le_mul_right sz (show i + 1 ≤ j from h)
  rwa [Nat.add_mul, Nat.one_mul] at this
theorem rowOf_wr_lt {sz : Nat} {cs us : List Value} {i j : Nat} (h : i * sz + us.length ≤ cs.length) (hj : j < i) : rowOf sz (wr cs (i * sz) us) j = rowOf sz cs j :=
  rowOf_ext fun k hk => by
    have := mul_lt_step (sz := sz) hj
    rw [wr_get h, if_pos (by omega)]
theorem rowOf_wr_gt {sz : Nat} {cs us : List Value} {i j : Nat} (h : i * sz + us.length ≤ cs.length) (hu : us.length ≤ sz) (hj : i < j) : rowOf sz (wr cs (i * sz) us) j = rowOf sz cs j :=
  rowOf_ext fun k hk => by
    have := mul_lt_step (sz := sz) hj
    rw [wr_get h, if_neg (by omega), if_neg (by omega)]
section
variable {P : Program} {N : Nat} {B : Base} {L L' : Sl} {its its' : List Item} {ps ps' : List (World → Prop)} {Q : Exit → Act → World → Prop} {D : Dm} {k : Nat} {ops : Array Oper} {rest : List Oper} {o : Oper} {d T T' n m off g cap len : Nat} {v v2 v0 : Value} {x y z : Operand} {cs us vs : List Value} {α : Type} {dk : Kd α} {e b : Nat}
namespace Y
/-- x[i:] -/
theorem sliceL {kk : IntKind} {i : Int} {size e' : Nat} (hop : o.op = .slice T x (some y) none none) (hx : ev L x = some (.slice (some ⟨g, 0, none⟩) len cap)) (hy : ev L y = some (.int kk i)) (hT : ElT P T e' size) (h0 : 0 ≤ i) (h1 : i < (len : Int)) (h2 : len ≤ cap) : Yd P N B o (.slice (some ⟨g, i.toNat * size, none⟩) (len - i.toNat) (cap - i.toNat)) L its ps := .mk <| fun a w hf hW => by
  have hTo := hT.out
  unfold elT at hTo
  cases hu : P.underlying T with
  | none => simp [hu] at hTo
  | some dd =>
    cases dd <;> simp [hu] at hTo
    rename_i e2
    obtain ⟨j, hj, rfl, rfl⟩ := hTo
    have he : P.elem T = e2 := by simp [Program.elem, hu]
    have h3 := run_slice_l (P := P) (w := w) T (some ⟨g, 0, none⟩) len cap (by rw [he]; exact hu) kk i h0 (by omega)
    unfold execOp; rw [hop]
    simp only [hf.ev hx, hf.ev hy, Option.map_some, Option.map_none]
    have h4 : (sizeOf (P.elem T)).run P w = .ok j.size w := by rw [he]; simp [sizeOf, typeInfo, hj]
    have h5 : (⟨g, 0, none⟩ : Addr).add (i.toNat * j.size) = ⟨g, i.toNat * j.size, none⟩ := by unfold Addr.add; split <;> simp_all
    simp [Instr.sliceAt, run_underlying hu, h3, h4, sliced, show ¬ cap = i.toNat by omega, h5]
end Y
/-- A call of a closure that only makes. -/
theorem Jl.callc {f : FuncId} {fi ca : Array Value} {args : Array Operand} {ts : Array TypeId} {vals : List Value} (hw : wants ops L o = some true) (hop : o.op = .call { callee := .value x, args := args, argTypes := ts }) (hd : o.dst = some d) (hN : Nat.blt d N = true)
    (hx : ev L x = some (.func (.func f) fi ca)) (he : Ent P f) (hargs : evs L args.toList = some vals)
    (hc : ∀ w, WS B w its ps → Calls P f (fi ++ vals.toArray ++ ca) w fun e w' => e = .returned v ∧ Below w.heap.size w w')
    (h : Jl P N B D (k + 1) ops Q rest ((d, v) :: L) its ps) (hD : D.takes k = false := by rfl) : Jl P N B D k ops Q (o :: rest) L its ps :=
  Jl.call (ι := Unit) (fun _ => True) (fun _ => v) (fun _ => its) (fun _ => ps) hw hop hd hN hx he hargs (fun w hW => by
    exact (hc w hW).mono (fun e w' hh => ⟨(), hh.1, trivial, hW.call hh.2, fun _ => hh.2⟩)) (fun _ _ => h) hD
/-- Beside item n, whatever is written in it. -/
theorem WS.beside {w : World} (h : WS B w its ps) {n : Nat} {i : Item} (hn : its[n]? = some i) : ∃ A, i.p w A ∧ (∀ W, Aft A w W → WS B W (its.eraseIdx n) ps) ∧
    ∀ (w' : World) (i' : Item) (A' : Nat → Prop), i'.p w' A' → (∀ k, A' k → k < w.heap.size → A k) → Aft A w w' → WS B w' (i' :: its.eraseIdx n) ps := by
  obtain ⟨h1, S, h2, h3, h4⟩ := h
  obtain ⟨A, C, g0, g1, g2, g3⟩ := h2.out hn
  have hAS : ∀ k, A k → S k := fun k hk => (g2 k).2 (.inl hk)
  have wk : ∀ W, Aft A w W → Aft S w W := fun W ha => ⟨ha.os, ha.tape, ha.output, ha.size, fun k hk hn => ha.block k hk (fun h' => hn (hAS k h'))⟩
  have wB : ∀ W, Aft A w W → Aft B.S B.w W := fun W ha => h1.trans ha (fun k hk hlt => (h3 k (hAS k hk)).resolve_right (by omega))
  have gl : ∀ W, Aft A w W → Own (its.eraseIdx n) W C := fun W ha => g1.loc ha.size (fun k hk => ha.block k (g1.lt k hk) (fun h' => g3 k h' hk))
  refine ⟨A, g0, fun W ha => ⟨wB W ha, C, gl W ha, fun k hk => h3 k ((g2 k).2 (.inr hk)), fun p hp => (h4 p hp).step (wk W ha) (fun k hk _ => (g2 k).2 (.inr hk))⟩, fun w' i' A' hi' hsub ha => ?_⟩
  refine ⟨wB w' ha, fun k => A' k ∨ C k, ⟨A', C, hi', gl w' ha, fun k => Iff.rfl, fun k hk hc => ?_⟩, ?_, fun p hp => (h4 p hp).step (wk w' ha) ?_⟩
  · exact g3 k (hsub k hk (g1.lt k hc)) hc
  · rintro k (hk | hk)
    · by_cases hlt : k < w.heap.size
      · exact h3 k (hAS k (hsub k hk hlt))
      · exact .inr (Nat.le_trans h1.size (by omega))
    · exact h3 k ((g2 k).2 (.inr hk))
  · rintro k (hk | hk) hlt
    · exact hAS k (hsub k hk hlt)
    · exact (g2 k).2 (.inr hk)
/-- A call that writes item i, with what is known beside it. -/
theorem Jl.callX {ι : Type} (I : ι → Prop) (val : ι → Value) (i : Item) (i' : ι → Item) {its0 : List Item} {f : FuncId} {args : Array Operand} {ts : Array TypeId} {vals : List Value} (hw : wants ops L o = some true) (hop : o.op = .call { callee := .value (.func f), args := args, argTypes := ts }) (hd : o.dst = some d) (hN : Nat.blt d N = true)
    (he : Ent P f) (hargs : evs L args.toList = some vals) (hn : OutAt i its its0)
    (hc : ∀ w A, i.p w A → (∀ W, Aft A w W → WS B W its0 ps) → Calls P f vals.toArray w fun e' w' => ∃ j, I j ∧ e' = .returned (val j) ∧ ∃ A', (i' j).p w' A' ∧ (∀ k, A' k → k < w.heap.size → A k) ∧ Aft A w w')
    (h : ∀ j, I j → Jl P N B D (k + 1) ops Q rest ((d, val j) :: L) (i' j :: its0) ps) (hD : D.takes k = false := by rfl) (hE : D.needs k = false := by rfl) : Jl P N B D k ops Q (o :: rest) L its ps := by
  obtain ⟨n, hn0, rfl⟩ := hn.at
  refine ⟨?_⟩
  intro a w hf hW
  unfold runG
  rw [if_neg (by rw [hD]; simp), if_pos (hf.wants hw)]
  have hl := hf.evs hargs
  have ha : args.map a.eval = vals.toArray := by
    apply Array.toList_inj.1
    rw [Array.toList_map]; exact hl
  have hrun : (execOp a.eval o).run P w = .ok (.enter f vals.toArray) w := by
    unfold execOp; rw [hop]
    simp [resolve, Act.eval, Deferred.ofValue, invoke, ha, he.out]
  unfold Oper.wp
  rw [hrun, Oper.upon_enter]
  obtain ⟨A, g1, g2, g3⟩ := hW.beside hn0
  refine (hc w A g1 g2).mono ?_
  rintro e' w' ⟨j, hI, rfl, A', hA', hsub, haft⟩
  refine ⟨fun h' => (by rw [hE] at h'; cases h'), ?_⟩
  rw [hd]
  exact h j hI _ _ (hf.put hN _) (g3 w' (i' j) A' hA' hsub haft)
end
end Go.Proofs.YtkglpfdoefdhdaaW.SL

namespace Go.Proofs.YtkglpfdoefdhdaaW.SL
open Go Go.RowKit Go.Proofs.YtkglpfdoefdhdaaW.PrintWords
set_option linter.unusedSimpArgs false
set_option linter.unusedVariables false
/-- What append asks of an element type: its zero value, size and bytes. -/
structure ApT (P : Program) (T e size bytes : Nat) : Prop where
  und : P.underlying T = some (.slice e)
  inf : ∃ i z, P.info? e = some i ∧ i.zero = some z ∧ i.size = size ∧ i.bytes = bytes ∧ z.cells.size = size
  pos : 0 < size
theorem apT_of {P : Program} {T e size bytes : Nat} {z : Value} (hu : P.underlying T = some (.slice e)) (hi : (P.info? e).map (fun i => (i.zero, i.size, i.bytes)) = some (some z, size, bytes)) (hz : z.cells.size = size) (h0 : 0 < size) : ApT P T e size bytes := by
  obtain ⟨i, h1, h2⟩ := Option.map_eq_some_iff.1 hi
  simp only [Prod.mk.injEq] at h2
  exact ⟨hu, ⟨i, z, h1, h2.1, h2.2.1, h2.2.2, hz⟩, h0⟩
theorem map_range0 (f : Nat → Value) : Array.map f (Array.range 0) = #[] := by apply Array.toList_inj.1; rw [Array.toList_map, Array.toList_range]; rfl
section
variable {P : Program} {N : Nat} {B : Base} {L L' : Sl} {its its' : List Item} {ps ps' : List (World → Prop)} {Q : Exit → Act → World → Prop} {D : Dm} {k : Nat} {ops : Array Oper} {rest : List Oper} {o : Oper} {d T n m gx e bytes : Nat} {v v2 : Value} {x y z : Operand} {cs us : List Value} {α : Type} {dk : Kd α} {xs : List α}
/-- x = append(x, one element). -/
theorem Jl.app (p : α) (okp : Nat → Prop) (hw : wants ops L o = some true) (hop : o.op = .call { callee := .builtin .append, args := #[x, y], argTypes := #[T, T] }) (hd : o.dst = some d) (hN : Nat.blt d N = true) (hx : ev L x = some v) (hy : ev L y = some (.slice (some ⟨gx, 0, none⟩) 1 1))
    (hT : ApT P T e dk.sz bytes) (hb : Item.box gx e us ∈ its) (hul : us.length = dk.sz) (hM : ∀ w : World, dk.M w 0 (fun _ => False) p us) (hone : ∀ u ∈ us, u.oneCell' = true)
    (hn : OutAt (.row dk e 0 v xs) its its') (hl : (xs.length + 1) * bytes ≤ 140737488355328) (hl2 : xs.length + 1 ≤ 9223372036854775807)
    (h : ∀ A c, xs.length + 1 ≤ c → Jl P N B D (k + 1) ops Q rest ((d, .slice A (xs ++ [p]).length c) :: L) (.row dk e 0 (.slice A (xs ++ [p]).length c) (xs ++ [p]) :: its') ps) (hD : D.takes k = false := by rfl) (hEE : D.needs k = false := by rfl) : Jl P N B D k ops Q (o :: rest) L its ps := by
  obtain ⟨n, hn0, rfl⟩ := hn.at
  refine ⟨?_⟩
  intro a w hf hW
  have hbx := Box_at hW hb
  obtain ⟨i, zz, i1, i2, i3, i4, i5⟩ := hT.inf
  obtain ⟨A, g1, g2, g3⟩ := hW.beside hn0
  obtain ⟨r1, r2⟩ := g1
  obtain ⟨q0, inner, hown, hr⟩ := Kd.R_mono r1 (ok' := fun k => A k ∨ w.heap.size ≤ k) (fun k hk => .inl hk)
  obtain ⟨v', w', e1, e2, e3, _, e4⟩ := run_append_own_at (P := P) (w := w) 0 T o.type e i zz dk.sz bytes hT.und i1 i2 i3 i4 i5 hT.pos v xs.length inner hown ⟨gx, 0, none⟩ 1 1 us (by rw [hul, Nat.one_mul]) (fun j u hu => by
    have := Box_cells hbx 0 j u (by simpa using hu)
    simpa using this) hone (by simp only [maxLen]; omega) hl (Nat.zero_le _)
  have hR := Kd.R_appended q0 hr (hM w) (fun k hk => hk.elim) (fun k hk => .inr hk) e2 e3 (e4.imp id (fun h => ⟨_, h, Nat.le_refl _⟩))
  obtain ⟨A', c', rfl, hc', _⟩ := Kd.R_reads hR
  rw [List.length_append, List.length_singleton] at hc'
  have hAown : ∀ k, v.ownBlock = some k → A k := r1.1
  have haft : Aft A w w' := ⟨e3.os, e3.tape, e3.output, e3.size, fun k hk hnA => e3.block k hk (fun e => hnA (hAown k e.symm))⟩
  unfold runG
  rw [if_neg (by rw [hD]; simp), if_pos (hf.wants hw)]
  have hrun : (execOp a.eval o).run P w = .ok (.value (.slice A' (xs ++ [p]).length c')) w' := by
    unfold execOp; rw [hop]
    simp only [List.length_append, List.length_singleton] at e1 ⊢
    simp [resolve, invoke, builtin, hf.ev hx, hf.ev hy, e1]
  unfold Oper.wp
  rw [hrun, Oper.upon_value, hd]
  refine ⟨fun h' => (by rw [hEE] at h'; cases h'), ?_⟩
  exact h A' c' hc' _ _ (hf.put hN _) (g3 w' _ (fun k => (A k ∨ w.heap.size ≤ k) ∧ k < w'.heap.size) ⟨Kd.R_mono (Kd.R_bound hR) (fun k hk => ⟨hk.1, hk.2.2.1⟩), fun k hk => hk.2⟩ (fun k hk hlt => hk.1.resolve_right (by omega)) haft)
/-- A literal without elements. -/
theorem Jl.lit0 (dk : Kd α) {sz : Nat} (hw : wants ops L o = some true) (hop : o.op = .buildSlice T 0 #[]) (hd : o.dst = some d) (hN : Nat.blt d N = true) (hT : ElT P T e sz)
    (h : ∀ g, Jl P N B D (k + 1) ops Q rest ((d, .slice (some ⟨g, 0, none⟩) ([] : List α).length 0) :: L) (.row dk e 0 (.slice (some ⟨g, 0, none⟩) ([] : List α).length 0) ([] : List α) :: its) ps) (hD : D.takes k = false := by rfl) : Jl P N B D k ops Q (o :: rest) L its ps :=
  Jl.e (fun g : Nat => .slice (some ⟨g, 0, none⟩) ([] : List α).length 0) (fun g => .row dk e 0 (.slice (some ⟨g, 0, none⟩) ([] : List α).length 0) ([] : List α) :: its) (fun _ => ps) hw hd hN (fun a w hf hW => by
    have hTo := hT.out
    unfold elT at hTo
    cases hu : P.underlying T with
    | none => simp [hu] at hTo
    | some dd =>
      cases dd <;> simp [hu] at hTo
      rename_i e2
      obtain ⟨j, hj, rfl, rfl⟩ := hTo
      have hb : Below w.heap.size w (w.alloc (.cells #[] e2)) := below_alloc (Below.refl _ _) _
      refine ⟨w.heap.size, w.alloc (.cells #[] e2), ?_, fun _ => hb, hW.new hb (A := fun k => k = w.heap.size) ⟨⟨fun k hk => ?_, [], ⟨by simp, .inr ⟨w.heap.size, 0, #[], rfl, Nat.zero_le _, heap_alloc_new w _, Nat.le_refl _, Nat.zero_le _, by simp, by simp⟩⟩, Reps.none _ _⟩, fun k hk => by rw [hk]; simp⟩ (fun k hk => by rw [hk]; exact Nat.le_refl _)⟩
      · unfold execOp; rw [hop]
        simp [Instr.buildSlice, run_underlying hu, sizeOf, typeInfo, hj, Instr.fill, newRow, map_range0]
      · have : w.heap.size = k := by simpa [Value.ownBlock] using hk
        exact this.symm) h hD
end
end Go.Proofs.YtkglpfdoefdhdaaW.SL

namespace Go.Proofs.YtkglpfdoefdhdaaW.SL
open Go Go.RowKit Go.Proofs.YtkglpfdoefdhdaaW.PrintWords
set_option linter.unusedSimpArgs false
set_option linter.unusedVariables false
section
variable {P : Program} {N : Nat} {B : Base} {L : Sl} {its : List Item} {ps : List (World → Prop)} {o : Oper} {T n m : Nat} {x : Operand} {ad ad' : Addr} {rows : List (List Value)} {us : List Value} {u : Value}
namespace Y
end Y
end
/-! #### items in another order, some left out -/
inductive Pick : List Item → List Item → Prop
  | nil {its} : Pick its []
  | cons {i : Item} {its r q} : OutAt i its r → Pick r q → Pick its (i :: q)
theorem Own.pick : ∀ {its its' : List Item} {w : World} {S : Nat → Prop}, Pick its its' → Own its w S → ∃ S', Own its' w S' ∧ ∀ k, S' k → S k
  | _, _, _, _, .nil, _ => ⟨fun _ => False, fun _ h => h, fun _ h => h.elim⟩
  | _, _, _, _, .cons ho hp, h => by
    obtain ⟨n, hn, rfl⟩ := ho.at
    obtain ⟨A, B, g1, g2, g3, g4⟩ := h.out hn
    obtain ⟨S', h1, h2⟩ := Own.pick hp g2
    exact ⟨fun k => A k ∨ S' k, ⟨A, S', g1, h1, fun _ => Iff.rfl, fun k ha hs => g4 k ha (h2 k hs)⟩, fun k hk => (g3 k).2 (hk.imp id (h2 k))⟩
theorem WS.pick {B : Base} {w : World} {its its' : List Item} {ps : List (World → Prop)} (hp : Pick its its') (h : WS B w its ps) : WS B w its' ps := by
  obtain ⟨h1, S, h2, h3, h4⟩ := h
  obtain ⟨S', g1, g2⟩ := Own.pick hp h2
  exact ⟨h1, S', g1, fun k hk => h3 k (g2 k hk), fun p hp => (h4 p hp).step (Aft.refl S w) (fun k hk _ => g2 k hk)⟩
section
variable {P : Program} {N : Nat} {B : Base} {L L' : Sl} {its its' : List Item} {ps ps' : List (World → Prop)} {Q : Exit → Act → World → Prop} {c c1 c2 : Code}
theorem Ej.cutP {K : Act → World → Prop} {ι : Type} (I : ι → Prop) (Lf : ι → Sl) (If : ι → List Item) (Pf : ι → List (World → Prop)) (hK : ∀ a w, (∃ i, I i ∧ Fr N a (Lf i) ∧ WS B w (If i) (Pf i)) → K a w) (i : ι) (hi : I i) (hL : Sub (Lf i) L) (hI : Pick its (If i)) (hp : ∀ p ∈ Pf i, p ∈ ps) : Ej N B K L its ps :=
  .mk <| fun a w hf hw => hK a w ⟨i, hi, hf.sub hL, (hw.pick hI).sub hp⟩
theorem Cj.pick (hp : Pick its its') (hs : ∀ p ∈ ps', p ∈ ps) (h : Cj P N B c Q L its' ps') : Cj P N B c Q L its ps := by
  refine ⟨?_⟩
  intro a w hf hw
  exact h a w hf ((hw.pick hp).sub hs)
/-- A loop; what it needs picked out of what there is. -/
theorem Cj.loopP {ι : Type} (I : ι → Prop) (Lf : ι → Sl) (If : ι → List Item) (Pf : ι → List (World → Prop)) (μ : ι → Nat) (hc : c = .loop c1) (i0 : ι) (h0 : I i0) (hL : Sub (Lf i0) L) (hI : Pick its (If i0)) (hp : ∀ p ∈ Pf i0, p ∈ ps)
    (h : ∀ i, I i → Cj P N B c1 (Exit.then (fun a w => ∃ j, (I j ∧ μ j < μ i) ∧ Fr N a (Lf j) ∧ WS B w (If j) (Pf j)) Q) (Lf i) (If i) (Pf i)) : Cj P N B c Q L its ps :=
  Cj.pick hI hp (Cj.loop I Lf If Pf μ hc i0 h0 hL rfl (fun _ h => h) h)
end
section
variable {P : Program} {N : Nat} {B : Base} {L : Sl} {its : List Item} {ps : List (World → Prop)} {o : Oper} {T n m : Nat} {x y : Operand} {ad ad' : Addr} {xs : List Int} {p q : Int}
namespace Y
end Y
end
end Go.Proofs.YtkglpfdoefdhdaaW.SL

namespace Go.Proofs.YtkglpfdoefdhdaaW.SL
open Go Go.RowKit Go.Proofs.YtkglpfdoefdhdaaW.PrintWords Go.Proofs.YtkglpfdoefdhdaaW.PrintLast
set_option linter.unusedSimpArgs false
set_option linter.unusedVariables false
section
variable {P : Program} {ops : Array Oper} {Q : Exit → Act → World → Prop} {md : Region.Mode} {ds : List Nat}
theorem wpAnyB_firstP {i : Nat} {oi : Oper} {v : Value} (hi : ops[i]? = some oi) (hsel : ∀ (j : Nat) (o : Oper) cs b, ops[j]? = some o → o.op ≠ .select cs b)
    (hQ : ∀ c a w, Q (.panic c) (a.put oi.dst v) w → Q (.panic c) a w) :
    ∀ (fuel : Nat) (listed : Array Bool) (a : Act) (w : World),
      (∀ j oj, ops[j]? = some oj → j ≠ i → listed.getD j true = false → (∀ e ∈ oj.after, Region.binds md e = true → e.on ≠ i) → oi.apart ops oj = true) →
      ListedClosed md ops listed →
      i ∈ Region.ready md ops listed → YieldsIf P ops (fun _ => True) oi v a →
      wpAnyB P md ops Q ds fuel (listed.setIfInBounds i true) (a.put oi.dst v) w → wpAnyB P md ops Q ds (fuel + 1) listed a w := by
  intro fuel
  induction fuel with
  | zero =>
    intro listed a w _ _ hr hy H
    refine ⟨fun h => (by rw [h] at hr; cases hr), fun j hj => ?_⟩
    by_cases hji : j = i
    · subst hji; exact hy.wpOp hi trivial ⟨fun _ => Below.refl _ _, H⟩
    · have := ready_mono hj hji
      rw [H.1] at this
      cases this
  | succ fuel ih =>
    intro listed a w hfree hc hr hy H
    refine ⟨fun h => (by rw [h] at hr; cases hr), fun j hj => ?_⟩
    by_cases hji : j = i
    · subst hji; exact hy.wpOp hi trivial ⟨fun _ => Below.refl _ _, H⟩
    · have h1 := H.2 j (ready_mono hj hji)
      obtain ⟨hjun, oj, hoj, hall⟩ := mem_ready.1 hj
      have hiun := (mem_ready.1 hr).1
      have hnot : ∀ e ∈ oj.after, Region.binds md e = true → e.on ≠ i := fun e he hb heq => by
        have h1 := hall e he hb
        rw [heq] at h1
        rcases Nat.lt_or_ge i listed.size with h' | h'
        · simp [h'] at hiun h1; rw [hiun] at h1; cases h1
        · simp [Array.getElem?_eq_none h'] at h1
      have h2 := wpOp_putIf hoj (hfree j oj hoj hji hjun hnot) (fun cs b => hsel i oi cs b hi) (fun cs b => hsel j oj cs b hoj) hQ hy h1
      have hfree' : ∀ k ok, ops[k]? = some ok → k ≠ i → (listed.setIfInBounds j true).getD k true = false →
          (∀ e ∈ ok.after, Region.binds md e = true → e.on ≠ i) → oi.apart ops ok = true := fun k ok hk hki hun hno => by
        refine hfree k ok hk hki ?_ hno
        by_cases hjk : j = k
        · subst hjk; exact hjun
        · rw [getD_set_ne true hjk] at hun; exact hun
      refine wpOp_mono (fun a' w' h3 => ⟨h3.2.1, ih (listed.setIfInBounds j true) a' w' hfree' (hc.set hj) (ready_mono hr (Ne.symm hji)) h3.1 ?_⟩) h2
      rw [Array.setIfInBounds_comm _ _ hji]
      exact h3.2.2
/-- Behind the operation: K; elsewhere Q. -/
def Qn (K : Act → World → Prop) (Q : Exit → Act → World → Prop) : Exit → Act → World → Prop
  | .normal, a, w => K a w
  | e, a, w => Q e a w
theorem wp_Qn {o : Oper} {a : Act} {w : World} {K K' : Act → World → Prop} (h : o.wp P a w K (Qn K' Q)) : o.wp P a w K Q := by
  unfold Oper.wp at h ⊢
  cases hr : (execOp a.eval o).run P w with
  | ok n w' =>
    rw [hr] at h
    cases n with
    | enter f args =>
      rw [Oper.upon_enter] at h ⊢
      refine Calls.mono h (fun e w'' he => ?_)
      cases e with
      | returned v => exact he
      | panicked c => exact he
      | outgrown => exact he
    | _ => exact h
  | halt hh w' =>
    rw [hr] at h
    cases hh <;> exact h
/-- One operation of a region, what follows by K. -/
theorem wpOp_one {D : Dm} {i : Nat} {o : Oper} {a : Act} {w : World} {K : Act → World → Prop} (ho : ops[i]? = some o) (ht : D.takes 0 = false) (hd : i ∈ ds ∨ D.needs 0 = true)
    (h : runG P ops (Qn K Q) D 0 [o] a w) : wpOp P ops Q i (fun a' w' => (i ∉ ds → Below w.heap.size w w') ∧ K a' w') a w := by
  unfold runG at h
  rw [if_neg (by rw [ht]; simp)] at h
  unfold wpOp
  rw [ho]
  dsimp only
  have hds : i ∉ ds → D.needs 0 = true := fun hn => hd.resolve_left hn
  by_cases hw : Region.wanted o (yielded ops a.tmps) = true
  · rw [if_pos hw] at h ⊢
    exact .inl (Oper.wp_mono (fun a' w' h' => ⟨fun hn => h'.1 (hds hn), h'.2⟩) (wp_Qn h))
  · rw [if_neg hw] at h ⊢
    exact ⟨fun _ => Below.refl _ _, h⟩
end
section
variable (P : Program) (N : Nat) (B : Base)
/-- The operations that are listed in l are done; n are left. -/
structure Jw (ds : List Nat) (n : Nat) (ops : Array Oper) (Q : Exit → Act → World → Prop) (l : List Bool) (L : Sl) (its : List Item) (ps : List (World → Prop)) : Prop where
  mk :: (out : ∀ a w, Fr N a L → WS B w its ps → wpAnyB P .any ops Q ds n l.toArray a w)
end
def takeOk (ops : Array Oper) (l : List Bool) (i : Nat) : Bool := takeT (rtab .any ops) [] l (l.set i true) i
def readyAre (ops : Array Oper) (l : List Bool) (is : List Nat) : Bool := readyT (rtab .any ops).2 l == is
section
variable {P : Program} {N : Nat} {B : Base} {L L' : Sl} {its its' : List Item} {ps ps' : List (World → Prop)} {Q : Exit → Act → World → Prop} {ops : Array Oper} {c : Code} {ds : List Nat} {n i j d : Nat} {l : List Bool} {o : Oper} {v : Value}
theorem Cj.regionJ {id : Nat} (hc : c = .region id ops true) (ds : List Nat) (hm : P.follows .mixedOrders = true) (h : Jw P N B ds ops.size ops Q (List.replicate ops.size false) L its ps) : Cj P N B c Q L its ps := by
  subst hc
  refine ⟨?_⟩
  intro a w hf hw
  refine wp_region_any hm ?_
  have hb : Below w.heap.size w { w with drawn := w.drawn + 1 } := ⟨rfl, rfl, rfl, Nat.le_refl _, fun _ _ => rfl⟩
  have := h.out a _ hf (hw.call hb)
  rw [show (List.replicate ops.size false).toArray = Array.replicate ops.size false by simp] at this
  exact wpAny_of_B _ _ _ _ this
theorem Jw.done (hr : readyAre ops l [] = true) (h : Ej N B (Q .normal) L its ps) : Jw P N B ds n ops Q l L its ps := by
  refine ⟨fun a w hf hw => ?_⟩
  simp only [readyAre, beq_iff_eq] at hr
  have hr' : Region.ready .any ops l.toArray = [] := by rw [ready_eq]; simpa using hr
  cases n with
  | zero => exact ⟨hr', h a w hf hw⟩
  | succ n => exact ⟨fun _ => h a w hf hw, fun i hi => by rw [hr'] at hi; cases hi⟩
/-- What is pure is taken. -/
theorem Jw.take (i : Nat) (ho : ops[i]? = some o) (ht : takeOk ops l i = true) (hQ : ∀ c a d v w, Q (.panic c) (Act.put a d v) w → Q (.panic c) a w) (hy : ∀ w, Yd P N (base w) o v L [] []) (hw : wants ops L o = some true) (hd : o.dst = some d) (hN : Nat.blt d N = true)
    (h : Jw P N B ds n ops Q (l.set i true) ((d, v) :: L) its ps) : Jw P N B ds (n + 1) ops Q l L its ps := by
  refine ⟨fun a w hf hW => ?_⟩
  have h3 := take_of (md := .any) (ops := ops) (l := l.toArray) (l' := l.toArray.setIfInBounds i true) rfl (by simpa [takeOk] using ht)
  simp only [takeB, Bool.and_eq_true, beq_iff_eq] at h3
  obtain ⟨⟨⟨⟨⟨g1, g2⟩, g3⟩, g4⟩, g5⟩, _⟩ := h3
  have g3' : i ∈ Region.ready .any ops l.toArray := by simpa using g3
  have := h.out (a.put o.dst v) w (by rw [hd]; exact hf.put hN _) hW
  refine wpAnyB_firstP ho (Region.noSelect_spec g1) (fun c a w => hQ c a _ _ w) n l.toArray a w (Region.free_spec ho g2) (Region.closedB_spec g4) g3' (.inl ⟨hf.wants hw, fun W _ => hy W a W hf (WS.start W)⟩) ?_
  simpa using this
/-- What reads memory is taken, if all that writes waits for it. -/
theorem Jw.takeR (i : Nat) (ho : ops[i]? = some o) (ht : takeT (rtab .any ops) ds l (l.set i true) i = true) (hQ : ∀ c a d v w, Q (.panic c) (Act.put a d v) w → Q (.panic c) a w) (hy : Yd P N B o v L its ps) (hw : wants ops L o = some true) (hd : o.dst = some d) (hN : Nat.blt d N = true)
    (h : Jw P N B ds n ops Q (l.set i true) ((d, v) :: L) its ps) : Jw P N B ds (n + 1) ops Q l L its ps := by
  refine ⟨fun a w hf hW => ?_⟩
  have h3 := take_of (md := .any) (ops := ops) (l := l.toArray) (l' := l.toArray.setIfInBounds i true) rfl (by simpa using ht)
  simp only [takeB, Bool.and_eq_true, beq_iff_eq] at h3
  obtain ⟨⟨⟨⟨⟨g1, g2⟩, g3⟩, g4⟩, g5⟩, _⟩ := h3
  have g3' : i ∈ Region.ready .any ops l.toArray := by simpa using g3
  have := h.out (a.put o.dst v) w (by rw [hd]; exact hf.put hN _) hW
  refine wpAnyB_first ho (Region.noSelect_spec g1) (fun c a w => hQ c a _ _ w) ops.size n l.toArray a w (Region.free_spec ho g2) (Region.closedB_spec g4)
    (fun d hm hun => by have := List.all_eq_true.1 g5 d hm; rw [hun] at this; simpa using this) g3' (.inl ⟨hf.wants hw, fun W hb => hy a W hf (hW.call hb)⟩) ?_
  simpa using this
/-- What alone is ready. -/
theorem Jw.step (D : Dm) (i : Nat) (ho : ops[i]? = some o) (hr : readyAre ops l [i] = true) (hd : (ds.contains i || D.needs 0) = true) (ht : D.takes 0 = false)
    (h : Jl P N B D 0 ops (Qn (wpAnyB P .any ops Q ds n (l.set i true).toArray) Q) [o] L its ps) : Jw P N B ds (n + 1) ops Q l L its ps := by
  refine ⟨fun a w hf hW => ?_⟩
  simp only [readyAre, beq_iff_eq] at hr
  have hr' : Region.ready .any ops l.toArray = [i] := by rw [ready_eq]; simpa using hr
  refine ⟨fun h0 => (by rw [hr'] at h0; cases h0), fun j hj => ?_⟩
  rw [hr'] at hj
  obtain rfl : j = i := by simpa using hj
  have := wpOp_one (ds := ds) ho ht (by simpa using hd) (h a w hf hW)
  simpa using this
/-- Two that are ready: each of them. -/
theorem Jw.br2 (D : Dm) (i j : Nat) {o' : Oper} (ho : ops[i]? = some o) (ho' : ops[j]? = some o') (hr : readyAre ops l [i, j] = true) (hd : ((ds.contains i && ds.contains j) || D.needs 0) = true) (ht : D.takes 0 = false)
    (h : Jl P N B D 0 ops (Qn (wpAnyB P .any ops Q ds n (l.set i true).toArray) Q) [o] L its ps) (h' : Jl P N B D 0 ops (Qn (wpAnyB P .any ops Q ds n (l.set j true).toArray) Q) [o'] L its ps) : Jw P N B ds (n + 1) ops Q l L its ps := by
  refine ⟨fun a w hf hW => ?_⟩
  simp only [readyAre, beq_iff_eq] at hr
  have hr' : Region.ready .any ops l.toArray = [i, j] := by rw [ready_eq]; simpa using hr
  refine ⟨fun h0 => (by rw [hr'] at h0; cases h0), fun k hk => ?_⟩
  rw [hr'] at hk
  rcases (by simpa using hk : k = i ∨ k = j) with rfl | rfl
  · have := wpOp_one (ds := ds) ho ht (by rcases Bool.or_eq_true_iff.1 hd with hd | hd <;> simp_all) (h a w hf hW)
    simpa using this
  · have := wpOp_one (ds := ds) ho' ht (by rcases Bool.or_eq_true_iff.1 hd with hd | hd <;> simp_all) (h' a w hf hW)
    simpa using this
/-- Behind one operation. -/
theorem Jl.jw {D : Dm} {k : Nat} (h : Jw P N B ds n ops Q l L its ps) : Jl P N B D k ops (Qn (wpAnyB P .any ops Q ds n l.toArray) Q) [] L its ps := .mk <| fun a w hf hW => h.out a w hf hW
end
end Go.Proofs.YtkglpfdoefdhdaaW.SL

namespace Go.Proofs.YtkglpfdoefdhdaaW.SL
open Go Go.RowKit Go.Proofs.YtkglpfdoefdhdaaW.PrintWords
set_option linter.unusedSimpArgs false
set_option linter.unusedVariables false
abbrev KJ : Kd Int := Kd.int .i64
abbrev K1 : Kd (List Value) := Kd.raw 1
def cell1 (v : Value) : List Value := [v]
/-- Rows of ints, each in blocks from b on. -/
structure EV (eI b : Nat) (vs : List Value) (xs : List (List Int)) (W : World) : Prop where
  len : vs.length = xs.length
  el : ∀ (j : Nat) (x : List Int) (u : Value), xs[j]? = some x → vs[j]? = some u → KJ.R eI W 0 (fun k => b ≤ k) u x
/-- The same, and the row that holds them. -/
structure GV (eS eI b : Nat) (v : Value) (vs : List Value) (xs : List (List Int)) (W : World) : Prop where
  row : K1.R eS W 0 (fun k => b ≤ k) v (vs.map cell1)
  els : EV eI b vs xs W
section
variable {eS eI b : Nat} {v u : Value} {vs : List Value} {xs : List (List Int)} {x : List Int} {w W : World}
theorem EV.move (h : EV eI b vs xs w) (hm : ∀ k, b ≤ k → k < w.heap.size → W.heap[k]? = w.heap[k]?) : EV eI b vs xs W := ⟨h.len, fun j x u hx hu => Kd.R_step (h.el j x u hx hu) hm⟩
theorem GV.move (h : GV eS eI b v vs xs w) (hm : ∀ k, b ≤ k → k < w.heap.size → W.heap[k]? = w.heap[k]?) : GV eS eI b v vs xs W := ⟨Kd.R_step h.row hm, h.els.move hm⟩
theorem EV.nil : EV eI b [] [] W := ⟨rfl, fun j x u hx => by simp at hx⟩
theorem GV.reads {A : Option Addr} {n c : Nat} (h : GV eS eI b (.slice A n c) vs xs W) : n = vs.length ∧ n ≤ c ∧ K1.C W A (vs.map cell1).length (vs.map cell1) := by
  obtain ⟨h1, h2, h3⟩ := Kd.R_reads' h.row
  exact ⟨by simpa using h1, h2, h3⟩
end
section
variable {B : Base} {w w0 : World} {its : List Item} {ps : List (World → Prop)} {eS eI b g : Nat} {v u : Value} {vs : List Value} {xs : List (List Int)} {x : List Int}
theorem WS.both (h : WS B w its ps) {p q r : World → Prop} (hp : p ∈ ps) (hq : q ∈ ps) (hr : ∀ W, p W → q W → r W) : WS B w its (r :: ps) :=
  h.lay (fun S _ hps W hm => hr W (hps p hp W hm) (hps q hq W hm))
theorem WS.pure (h : WS B w its ps) {p : World → Prop} (hp : ∀ W, p W) : WS B w its (p :: ps) := h.lay (fun S _ _ W _ => hp W)
end
section
variable {P : Program} {N : Nat} {B : Base} {w0 : World} {L L' : Sl} {its its' : List Item} {ps ps' : List (World → Prop)} {Q : Exit → Act → World → Prop} {D : Dm} {k : Nat} {ops : Array Oper} {rest : List Oper} {o : Oper} {d T n m gx eS eI b bytes : Nat} {v u : Value} {x y : Operand} {vs : List Value} {xs : List (List Int)} {z : List Int}
/-- A call that writes the row in the third field of its first argument. -/
theorem Jl.callMc {v0 x0 y0 r : Value} {vs : List Value} (I I' : Value → Item) {f : FuncId} {args : Array Operand} {ts : Array TypeId} (hw : wants ops L o = some true) (hop : o.op = .call { callee := .value (.func f), args := args, argTypes := ts }) (hd : o.dst = some d) (hN : Nat.blt d N = true)
    (he : Ent P f) (hargs : evs L args.toList = some (.agg [x0, y0, v0].toArray :: vs)) (hn : SetAt (I v0) (I' v0) its its')
    (hc : ∀ w A, WS B w its ps → (I v0).p w A → Calls P f (.agg [x0, y0, v0].toArray :: vs).toArray w fun e' w' => e' = .returned r ∧ ∃ A', (I' v0).p w' A' ∧ (∀ k, A' k → k < w.heap.size → A k) ∧ Aft A w w')
    (h : Jl P N B D (k + 1) ops Q rest ((d, r) :: L) its' ps) (hD : D.takes k = false := by rfl) (hE : D.needs k = false := by rfl) : Jl P N B D k ops Q (o :: rest) L its ps :=
  Jl.callM (I v0) (I' v0) hw hop hd hN he hargs hn hc h hD hE
end
end Go.Proofs.YtkglpfdoefdhdaaW.SL

namespace Go.Proofs.YtkglpfdoefdhdaaW.SL
open Go Go.RowKit Go.Proofs Go.Proofs.YtkglpfdoefdhdaaW.PrintWords
set_option linter.unusedSimpArgs false
set_option linter.unusedVariables false
section
variable {β γ : Type}
/-- x goes left past all that are greater: A (the nearest first) lies left of it, B right. -/
def goI (lt : β → β → Bool) (x : β) : List β → List β → List β
  | [], B => x :: B
  | y :: A, B => if lt x y = true then goI lt x A (y :: B) else A.reverse ++ y :: x :: B
def insR (lt : β → β → Bool) (s : List β) (x : β) : List β := goI lt x s.reverse []
def isort (lt : β → β → Bool) (l : List β) : List β := l.foldl (insR lt) []
theorem snoc_ind {p : List β → Prop} (h0 : p []) (h1 : ∀ l x, p l → p (l ++ [x])) (l : List β) : p l := by
  rw [← l.reverse_reverse]
  induction l.reverse with
  | nil => exact h0
  | cons a t ih => rw [List.reverse_cons]; exact h1 _ _ ih
theorem goI_len (lt : β → β → Bool) (x : β) : ∀ A B, (goI lt x A B).length = A.length + B.length + 1
  | [], B => by simp [goI]
  | y :: A, B => by
    unfold goI
    split
    · rw [goI_len lt x A]; simp; omega
    · simp; omega
theorem goI_mem (lt : β → β → Bool) (x z : β) : ∀ A B, z ∈ goI lt x A B → z = x ∨ z ∈ A ∨ z ∈ B
  | [], B, h => by
    unfold goI at h
    rcases List.mem_cons.1 h with h | h
    · exact .inl h
    · exact .inr (.inr h)
  | y :: A, B, h => by
    unfold goI at h
    split at h
    · rcases goI_mem lt x z A _ h with h | h | h
      · exact .inl h
      · exact .inr (.inl (List.mem_cons_of_mem _ h))
      · rcases List.mem_cons.1 h with h | h
        · exact .inr (.inl (h ▸ List.mem_cons_self))
        · exact .inr (.inr h)
    · simp only [List.mem_append, List.mem_reverse, List.mem_cons] at h ⊢
      rcases h with h | h | h | h
      · exact .inr (.inl (.inr h))
      · exact .inr (.inl (.inl h))
      · exact .inl h
      · exact .inr (.inr h)
theorem insR_len (lt : β → β → Bool) (s : List β) (x : β) : (insR lt s x).length = s.length + 1 := by simp [insR, goI_len]
theorem insR_mem {lt : β → β → Bool} {s : List β} {x z : β} (h : z ∈ insR lt s x) : z = x ∨ z ∈ s := by
  rcases goI_mem lt x z _ _ h with h | h | h
  · exact .inl h
  · exact .inr (List.mem_reverse.1 h)
  · cases h
theorem isort_snoc (lt : β → β → Bool) (l : List β) (x : β) : isort lt (l ++ [x]) = insR lt (isort lt l) x := by simp [isort]
theorem isort_len (lt : β → β → Bool) (l : List β) : (isort lt l).length = l.length := by
  induction l using snoc_ind with
  | h0 => rfl
  | h1 l x ih => rw [isort_snoc, insR_len, ih]; simp
theorem isort_mem {lt : β → β → Bool} {z : β} {l : List β} : z ∈ isort lt l → z ∈ l := by
  induction l using snoc_ind with
  | h0 => exact id
  | h1 l x ih =>
    rw [isort_snoc]
    intro h
    rcases insR_mem h with h | h
    · simp [h]
    · simp [ih h]
end
section
variable {P : Program} {N : Nat} {B : Base} {L : Sl} {its : List Item} {ps : List (World → Prop)}
theorem Ej.out0 {fn : Func} {R : Ending → World → Prop} {K : Act → World → Prop} (hK : ∀ a w, bodyPost P fn R .ret a w → K a w) (hr : fn.results = #[]) (hR : ∀ w, WS B w its ps → R (.returned (.tuple #[])) w) : Ej N B K L its ps := by
  refine ⟨?_⟩
  intro a w hf hw
  refine hK a w ⟨hf.defers, .tuple #[], ?_, hR w hw⟩
  simp [results, hr]
namespace Y
/-- A conversion of an int that fits into an unsigned one. -/
theorem convU {o : Oper} {S T : TypeId} {x : Operand} {n : Int} (hop : o.op = .convert S T x) (hx : ev L x = some (.int .i64 n)) (hS : P.underlying S = some (.int .i64)) (hT : P.underlying T = some (.int .u64)) (h0 : 0 ≤ n) (h1 : n ≤ 9223372036854775807) : Yd P N B o (.int .u64 n) L its ps := .mk <| fun a w hf hW => by
  have wr : IntKind.u64.wrap n = n := by simp [IntKind.wrap, IntKind.bits, IntKind.signed]; omega
  unfold execOp; rw [hop]
  simp [convert, hf.ev hx, run_underlying hS, run_underlying hT, Conv.intToInt, wr]
end Y
end
end Go.Proofs.YtkglpfdoefdhdaaW.SL

namespace Go.Proofs.YtkglpfdoefdhdaaW.SL
open Go Go.RowKit Go.Proofs.YtkglpfdoefdhdaaW.PrintWords
set_option linter.unusedSimpArgs false
set_option linter.unusedVariables false
section
variable {P : Program} {N : Nat} {B : Base} {L : Sl} {its : List Item} {ps : List (World → Prop)} {o : Oper} {T n m : Nat} {x : Operand} {ad ad' : Addr} {α : Type} {dk : Kd α} {xs : List α} {u : Value}
namespace Y
/-- A whole element of a row of numbers' records that is only read. -/
theorem loadK (z : α) (us : List Value) (hop : o.op = .load T x) (hx : ev L x = some (.pointer (some ad'))) (hT : AggT P T m) (hp : (fun w => dk.C w (some ad) n xs) ∈ ps) (i : Int) (h0 : 0 ≤ i) (h1 : i < (n : Int)) (had : ad' = ad.add (i.toNat * dk.sz)) (hus : ∀ w cs, dk.K w (xs.getD i.toNat z) cs → cs = us) (hl : Nat.beq us.length m = true) : Yd P N B o (.agg us.toArray) L its ps := .mk <| fun a w hf hW => by
  obtain rfl := Nat.eq_of_beq_eq_true hl
  obtain ⟨ad2, c, e, hl, hr, hcell⟩ := ReadsRow.get_ (hW.fact hp) z i h0 h1
  injection e with e
  subst e
  obtain rfl := hus w c hr
  have hC : Cells w ad' c := fun j u hu => by rw [had, add_add]; exact hcell j u hu
  unfold execOp; rw [hop]; simp [hf.ev hx, run_load_agg hT.out hC]
end Y
end
end Go.Proofs.YtkglpfdoefdhdaaW.SL

namespace Go.Proofs.YtkglpfdoefdhdaaW.SL
open Go Go.RowKit Go.Sort Go.Shelf Go.Lib Go.Proofs Go.Proofs.YtkglpfdoefdhdaaW.PrintWords
set_option linter.unusedSimpArgs false
set_option linter.unusedVariables false
abbrev eI (l : List Int) : List Value := l.map (Value.int .i64)
section
variable {P : Program} {N : Nat} {B : Base} {L L' : Sl} {its its' : List Item} {ps ps' : List (World → Prop)} {Q : Exit → Act → World → Prop} {D : Dm} {k : Nat} {ops : Array Oper} {rest : List Oper} {o : Oper} {d T n m c sz e bytes : Nat} {v v2 : Value} {x y z : Operand} {A : Option Addr} {j : Int} {kd : IntKind}
theorem map_add0 (A : Option Addr) : A.map (·.add 0) = A := by
  cases A with
  | none => rfl
  | some a => simp [Addr.add]
namespace Y
/-- l[:j]. -/
theorem sliTo (hop : o.op = .slice T x none (some y) none) (hx : ev L x = some (.slice A n c)) (hy : ev L y = some (.int kd j)) (hT : ElT P T e sz) (h0 : 0 ≤ j) (h1 : j ≤ (c : Int)) : Yd P N B o (.slice A j.toNat c) L its ps := .mk <| fun a w hf _ => by
  have hTo := hT.out
  unfold elT at hTo
  cases hu : P.underlying T with
  | none => simp [hu] at hTo
  | some dd =>
    cases dd <;> simp [hu] at hTo
    obtain ⟨i, hi, rfl, rfl⟩ := hTo
    have h2 := map_add0 A
    unfold execOp; rw [hop]
    simp [Instr.sliceAt, Instr.slice, Instr.sliceBounds, run_sliceBound, hf.ev hx, hf.ev hy, run_underlying hu, sizeOf, typeInfo, hi, h0, h1, h2]
/-- l[j:]. -/
theorem sliFrom (hop : o.op = .slice T x (some y) none none) (hx : ev L x = some (.slice A n c)) (hy : ev L y = some (.int kd j)) (hT : ElT P T e sz) (h0 : 0 ≤ j) (h1 : j ≤ (n : Int)) : Yd P N B o (.slice (if c = j.toNat then A else A.map (·.add (j.toNat * sz))) (n - j.toNat) (c - j.toNat)) L its ps := .mk <| fun a w hf _ => by
  have hTo := hT.out
  unfold elT at hTo
  cases hu : P.underlying T with
  | none => simp [hu] at hTo
  | some dd =>
    cases dd <;> simp [hu] at hTo
    obtain ⟨i, hi, rfl, rfl⟩ := hTo
    unfold execOp; rw [hop]
    simp [Instr.sliceAt, Instr.slice, Instr.sliceBounds, run_sliceBound, hf.ev hx, hf.ev hy, run_underlying hu, sizeOf, typeInfo, hi, h0, h1]
end Y
theorem run_app_none {w : World} (base : Nat) (t ty e : TypeId) (i : TypeInfo) (size : Nat) (ht : P.underlying t = some (.slice e)) (hi : P.info? e = some i)
    (v : Value) (n c : Nat) (xs : List Value) (hown : w.ownsRow base e size v n xs) :
    (Builtin.append_ #[t, t] ty #[v, .slice none 0 c]).run P w = .ok v w := by
  rcases hown.2 with ⟨rfl, rfl⟩ | ⟨g, cap, cur, rfl, _, _, hnc, _⟩
  · simp [Builtin.append_, run_underlying ht, sizeOf, typeInfo, hi, Builtin.lenOf, Builtin.firstCells]
  · simp [Builtin.append_, run_underlying ht, sizeOf, typeInfo, hi, Builtin.lenOf, Builtin.firstCells, hnc, storeCells]
end
end Go.Proofs.YtkglpfdoefdhdaaW.SL

namespace Go.Proofs.YtkglpfdoefdhdaaW.SL
open Go Go.RowKit Go.Proofs Go.Proofs.YtkglpfdoefdhdaaW.PrintWords
set_option linter.unusedSimpArgs false
set_option linter.unusedVariables false
structure Flat {α : Type} (dk : Kd α) (enc : α → List Value) (sz : Nat) : Prop where
  hsz : dk.sz = sz
  M : ∀ w b ok x cs, dk.M w b ok x cs ↔ cs = enc x
  K : ∀ w x cs, dk.K w x cs → cs = enc x
  len : ∀ x, (enc x).length = sz
  one : ∀ x, ∀ u ∈ enc x, u.oneCell' = true
  pos : 0 < sz
section
variable {α : Type} {dk : Kd α} {enc : α → List Value} {sz : Nat}
theorem flat_len (hl : ∀ x, (enc x).length = sz) : ∀ xs : List α, (xs.flatMap enc).length = xs.length * sz
  | [] => by simp
  | x :: xs => by rw [List.flatMap_cons, List.length_append, hl, flat_len hl xs, List.length_cons, Nat.add_mul, Nat.one_mul, Nat.add_comm]
theorem flat_get (hl : ∀ x, (enc x).length = sz) (hpos : 0 < sz) : ∀ (xs : List α) (j : Nat), (xs.flatMap enc)[j]? = (xs[j / sz]?).bind (fun x => (enc x)[j % sz]?)
  | [], j => by simp
  | x :: xs, j => by
    rw [List.flatMap_cons]
    by_cases h : j < sz
    · rw [List.getElem?_append_left (by rw [hl]; exact h), Nat.div_eq_of_lt h, Nat.mod_eq_of_lt h]; rfl
    · obtain ⟨d, rfl⟩ : ∃ d, j = d + sz := ⟨j - sz, by omega⟩
      rw [List.getElem?_append_right (by rw [hl]; omega), hl, Nat.add_sub_cancel, flat_get hl hpos xs d, Nat.add_div_right _ hpos, Nat.add_mod_right]; rfl
theorem reps_F (hF : Flat dk enc sz) {w : World} {b : Nat} {ok : Nat → Prop} {xs : List α} {cs : List Value} : Reps (dk.M w b ok) dk.sz xs cs ↔ cs = xs.flatMap enc := by
  rw [hF.hsz]
  constructor
  · rintro ⟨h1, h2⟩
    apply List.ext_getElem?
    intro j
    rw [flat_get hF.len hF.pos]
    by_cases hj : j / sz < xs.length
    · have h3 := (hF.M _ _ _ _ _).1 (h2 (j / sz) xs[j / sz] (List.getElem?_eq_getElem hj))
      rw [List.getElem?_eq_getElem hj, Option.bind_some, ← h3, List.getElem?_take, if_pos (Nat.mod_lt _ hF.pos), List.getElem?_drop, Nat.div_add_mod']
    · rw [List.getElem?_eq_none (l := xs) (by omega), Option.bind_none, List.getElem?_eq_none]
      rw [h1]
      have := (Nat.le_div_iff_mul_le hF.pos).1 (Nat.le_of_not_lt hj)
      exact this
  · rintro rfl
    refine ⟨flat_len hF.len xs, fun j x hx => (hF.M _ _ _ _ _).2 ?_⟩
    apply List.ext_getElem?
    intro k
    rw [List.getElem?_take]
    split
    · rename_i hk
      rw [List.getElem?_drop, flat_get hF.len hF.pos, Nat.add_comm, Nat.add_mul_div_right _ _ hF.pos, Nat.div_eq_of_lt hk, Nat.zero_add, hx, Option.bind_some, Nat.add_mul_mod_self_right, Nat.mod_eq_of_lt hk]
    · rename_i hk
      rw [List.getElem?_eq_none (by rw [hF.len]; omega)]
theorem row_F (hF : Flat dk enc sz) {w : World} {e b : Nat} {ok : Nat → Prop} {v : Value} {xs : List α} : dk.R e w b ok v xs ↔ (∀ k, v.ownBlock = some k → ok k) ∧ w.ownsRow b e sz v xs.length (xs.flatMap enc) := by
  constructor
  · rintro ⟨h1, inner, h2, h3⟩
    have := (reps_F hF).1 h3
    subst this
    rw [hF.hsz] at h2
    exact ⟨h1, h2⟩
  · rintro ⟨h1, h2⟩
    refine ⟨h1, _, ?_, (reps_F hF).2 rfl⟩
    rw [hF.hsz]
    exact h2
end
section
variable {P : Program} {N : Nat} {B : Base} {L L' : Sl} {its its' : List Item} {ps ps' : List (World → Prop)} {Q : Exit → Act → World → Prop} {D : Dm} {k : Nat} {ops : Array Oper} {rest : List Oper} {o : Oper} {d T n m c sz e bytes : Nat} {v v2 : Value} {x y z : Operand} {A : Option Addr} {α : Type} {dk : Kd α} {enc : α → List Value}
/-- x = append(x, l..), l a row of flat records that is only read. -/
theorem Jl.appF (hF : Flat dk enc sz) {xs zs : List α} {A2 : Option Addr} {c2 : Nat} (hw : wants ops L o = some true) (hop : o.op = .call { callee := .builtin .append, args := #[x, y], argTypes := #[T, T] }) (hd : o.dst = some d) (hN : Nat.blt d N = true) (hx : ev L x = some v) (hy : ev L y = some (.slice A2 m c2))
    (hT : ApT P T e sz bytes) (hm : m = zs.length) (hp : (fun w => dk.C w A2 zs.length zs) ∈ ps) (hn : OutAt (.row dk e 0 v xs) its its') (hl : (xs.length + zs.length) * bytes ≤ 140737488355328) (hl2 : xs.length + zs.length ≤ 9223372036854775807)
    (h : ∀ A c, (xs ++ zs).length ≤ c → Jl P N B D (k + 1) ops Q rest ((d, .slice A (xs ++ zs).length c) :: L) (.row dk e 0 (.slice A (xs ++ zs).length c) (xs ++ zs) :: its') ps) (hD : D.takes k = false := by rfl) (hEE : D.needs k = false := by rfl) : Jl P N B D k ops Q (o :: rest) L its ps := by
  subst hm
  obtain ⟨n, hn0, rfl⟩ := hn.at
  refine ⟨?_⟩
  intro a w hf hW
  obtain ⟨i, zz, i1, i2, i3, i4, i5⟩ := hT.inf
  have hC := hW.fact hp
  obtain ⟨A, g1, g2, g3⟩ := hW.beside hn0
  obtain ⟨q0, hown⟩ := (row_F hF).1 g1.1
  obtain ⟨v', w', e1, e2, e3, e4⟩ : ∃ v' w', (Builtin.append_ #[T, T] o.type #[v, .slice A2 zs.length c2]).run P w = .ok v' w' ∧ w'.ownsRow 0 e sz v' (xs.length + zs.length) (xs.flatMap enc ++ zs.flatMap enc) ∧ w.grownBy w' v.ownBlock ∧ (v'.ownBlock = v.ownBlock ∨ v'.ownBlock = some w.heap.size) := by
    cases A2 with
    | none =>
      obtain rfl : zs = [] := by
        rcases Nat.eq_zero_or_pos zs.length with h0 | h0
        · exact List.length_eq_zero_iff.1 h0
        · obtain ⟨ad, e, _⟩ := hC.2.2 h0
          cases e
      exact ⟨v, w, run_app_none 0 T o.type e i sz hT.und i1 v xs.length c2 (xs.flatMap enc) hown, by simpa using hown, ⟨rfl, rfl, rfl, Nat.le_refl _, fun _ _ _ => rfl⟩, .inl rfl⟩
    | some ad =>
      obtain ⟨v', w', e1, e2, e3, _, e4⟩ := run_append_own_at (P := P) (w := w) 0 T o.type e i zz sz bytes hT.und i1 i2 i3 i4 i5 hT.pos v xs.length _ hown ad zs.length c2 (zs.flatMap enc) (by rw [flat_len hF.len]) (fun j u hu => by
        rw [flat_get hF.len hF.pos, Option.bind_eq_some_iff] at hu
        obtain ⟨p, hz, hu⟩ := hu
        have hlt : j / sz < zs.length := (List.getElem?_eq_some_iff.1 hz).1
        obtain ⟨ad2, ha, hcell⟩ := hC.2.2 (Nat.lt_of_le_of_lt (Nat.zero_le _) hlt)
        injection ha with ha
        subst ha
        obtain ⟨cs, c1, c2, c3⟩ := hcell (j / sz) p hz
        have c2' := hF.K _ _ _ c2
        subst c2'
        have := c3 (j % sz) u hu
        rw [hF.hsz, Nat.div_add_mod' j sz] at this
        exact this) (fun u hu => by
        obtain ⟨p, _, hp⟩ := List.mem_flatMap.1 hu
        exact hF.one p u hp) (by simp only [maxLen]; omega) hl (Nat.zero_le _)
      exact ⟨v', w', e1, e2, e3, e4⟩
  have hown' : w'.ownsRow 0 e sz v' (xs ++ zs).length ((xs ++ zs).flatMap enc) := by rw [List.length_append, List.flatMap_append]; exact e2
  obtain ⟨A', c', rfl, hc'⟩ : ∃ A' c', v' = .slice A' (xs ++ zs).length c' ∧ (xs ++ zs).length ≤ c' := by
    rcases hown'.2 with ⟨rfl, h0⟩ | ⟨g, cap, cur, rfl, _, _, h7, _⟩
    · exact ⟨none, 0, by rw [h0], by rw [h0]; exact Nat.le_refl _⟩
    · exact ⟨_, cap, rfl, h7⟩
  have hAown : ∀ k, v.ownBlock = some k → A k := q0
  have haft : Aft A w w' := ⟨e3.os, e3.tape, e3.output, e3.size, fun k hk hnA => e3.block k hk (fun e => hnA (hAown k e.symm))⟩
  have hblt : ∀ k, (Value.slice A' (xs ++ zs).length c').ownBlock = some k → k < w'.heap.size := fun k hk => by
    rcases hown'.2 with ⟨e0, _⟩ | ⟨g, cap, cur, e0, _, h6, _⟩
    · rw [e0] at hk; cases hk
    · rw [e0] at hk
      obtain rfl : g = k := by simpa [Value.ownBlock] using hk
      exact blk_lt h6
  unfold runG
  rw [if_neg (by rw [hD]; simp), if_pos (hf.wants hw)]
  have hrun : (execOp a.eval o).run P w = .ok (.value (.slice A' (xs ++ zs).length c')) w' := by
    unfold execOp; rw [hop]
    simp only [List.length_append] at e1 ⊢
    simp [resolve, invoke, builtin, hf.ev hx, hf.ev hy, e1]
  unfold Oper.wp
  rw [hrun, Oper.upon_value, hd]
  refine ⟨fun h' => (by rw [hEE] at h'; cases h'), ?_⟩
  exact h A' c' hc' _ _ (hf.put hN _) (g3 w' _ (fun k => (Value.slice A' (xs ++ zs).length c').ownBlock = some k) ⟨(row_F hF).2 ⟨fun k hk => hk, hown'⟩, hblt⟩ (fun k hk hlt => by
    rcases e4 with e4 | e4
    · exact hAown k (e4 ▸ hk)
    · rw [e4] at hk
      injection hk with hk
      omega) haft)
/-- A literal of one record. -/
theorem Jl.litS {us zs : List Value} (hw : wants ops L o = some true) (hop : o.op = .buildSlice T 1 #[(0, x)]) (hd : o.dst = some d) (hN : Nat.blt d N = true) (hx : ev L x = some (.agg us.toArray)) (hT : ElT P T e sz) (hz : ZeroT P e zs) (hs : Nat.ble (1 * sz) 1024 = true) (h0 : Nat.blt 0 sz = true)
    (hf : Instr.fill (fun i => some (i * sz, sz)) ((Array.range sz).map (fun j => zs[j % zs.length]?.getD default)) [(0, .agg us.toArray)] = some us.toArray)
    (h : ∀ g, Jl P N B D (k + 1) ops Q rest ((d, .slice (some ⟨g, 0, none⟩) 1 1) :: L) (.box g e us :: its) ps) (hD : D.takes k = false := by rfl) : Jl P N B D k ops Q (o :: rest) L its ps :=
  Jl.e (fun g : Nat => .slice (some ⟨g, 0, none⟩) 1 1) (fun g => .box g e us :: its) (fun _ => ps) hw hd hN (fun a w hfr hW => by
    have hs' := Nat.le_of_ble_eq_true hs
    have h0' : 0 < sz := Nat.le_of_ble_eq_true h0
    have hTo := hT.out
    unfold elT at hTo
    obtain ⟨z, hz1, hz2⟩ := run_zeroT (w := w) hz.out
    have hzc : z.cells = zs.toArray := by apply Array.toList_inj.1; rw [hz2]
    cases hu : P.underlying T with
    | none => simp [hu] at hTo
    | some dd =>
      cases dd <;> simp [hu] at hTo
      rename_i e2
      obtain ⟨j, hj, rfl, hj1⟩ := hTo
      refine ⟨w.heap.size, w.alloc (.cells us.toArray e2), ?_, fun _ => below_alloc (Below.refl _ _) _, hW.alloc e2 us.toArray⟩
      unfold execOp; rw [hop]
      simp only [Instr.buildSlice, run_underlying hu, sizeOf, typeInfo, hj, hz1, newRow, hfr.ev hx, Array.toList_map, List.map_cons, List.map_nil]
      simp [run_underlying hu, sizeOf, typeInfo, hj, hz1, hzc, newRow, hfr.ev hx]
      rw [if_neg (by rw [hj1]; omega), if_neg (by rw [hj1]; omega), hj1, hf]
      simp) h hD
namespace Y
end Y
end
end Go.Proofs.YtkglpfdoefdhdaaW.SL

namespace Go.Proofs.YtkglpfdoefdhdaaW.SL
open Go Go.RowKit Go.Proofs Go.Proofs.YtkglpfdoefdhdaaW.PrintWords
set_option linter.unusedSimpArgs false
set_option linter.unusedVariables false
section
variable {P : Program} {N : Nat} {B : Base} {L L' : Sl} {its its' : List Item} {ps ps' : List (World → Prop)} {Q : Exit → Act → World → Prop} {D : Dm} {k : Nat} {ops : Array Oper} {rest : List Oper} {o : Oper} {d T n m c sz e bytes g off nd cd : Nat} {v v2 : Value} {x y z : Operand} {A : Option Addr} {α : Type} {dk : Kd α} {enc : α → List Value} {cs us : List Value}
namespace Y
theorem capS {ts : Array TypeId} {A : Option Addr} {m c e : Nat} (ht : P.underlying T = some (.slice e)) (hop : o.op = .call { callee := .builtin .cap, args := #[x], argTypes := ts }) (hts : ts[0]? = some T) (hx : ev L x = some (.slice A m c)) : Yd P N B o (.int .i64 (c : Int)) L its ps := .mk <| fun a w hf hW => by
  have he : P.elem T = e := by simp [Program.elem, ht]
  obtain ⟨t, rfl⟩ : ∃ t, ts = t := ⟨_, rfl⟩
  unfold execOp; rw [hop]
  have hts' : ts.toList[0]? = some T := by simpa using hts
  have h1 := run_cap_slice (P := P) (w := w) T o.type A m c (by rw [he]; exact ht)
  simp [resolve, invoke, builtin, hf.ev hx]
  first
    | (rw [show ts = #[T] from by assumption]; simp [h1, goInt])
    | (have : (Builtin.cap_ ts o.type #[.slice A m c]).run P w = .ok (goInt c) w := by
        simp [Builtin.cap_, hts, run_underlying ht]
       simp [this, goInt])
theorem shrU {tx ty : TypeId} {p q : Int} (hop : o.op = .binOp .shr tx x y ty) (hx : ev L x = some (.int .u64 p)) (hy : ev L y = some (.int .u64 1)) (hq : p / 2 = q) : Yd P N B o (.int .u64 q) L its ps := by
  refine bin hop hx hy (fun w => ?_)
  have := shift_shr .u64 .u64 p 1 (by decide) (by decide)
  rw [show (2 : Int) ^ (1 : Int).toNat = 2 from rfl, hq] at this
  simp [eqGuard, binOp, this]
theorem convS {S : TypeId} {n : Int} (hop : o.op = .convert S T x) (hx : ev L x = some (.int .u64 n)) (hS : P.underlying S = some (.int .u64)) (hT : P.underlying T = some (.int .i64)) (h0 : 0 ≤ n) (h1 : n ≤ 9223372036854775807) : Yd P N B o (.int .i64 n) L its ps := .mk <| fun a w hf hW => by
  have wr : IntKind.i64.wrap n = n := by simp [IntKind.wrap, IntKind.bits, IntKind.signed]; omega
  unfold execOp; rw [hop]
  simp [convert, hf.ev hx, run_underlying hS, run_underlying hT, Conv.intToInt, wr]
/-- slices.overlaps of two rows in two blocks. -/
theorem apart {f : FuncId} {fn : Func} {tS tR : TypeId} {la ca lb cb off2 : Nat} {g2 T' T2 : Nat} {ts : Array TypeId} (hop : o.op = .call { callee := .value (.func f), args := #[x, y], argTypes := ts })
    (hf : P.funcs[f]? = some fn) (hname : (fn.name == "runtime.NumGoroutine") = false) (hb : fn.body.isNone = true) (hn : Extern.findNext fn = none) (he : Extern.find fn = some (Extern.SlicesOverlaps.overlaps #[tS, tS] #[tR])) (hT : ElT P tS e sz)
    (hx : ev L x = some (.slice (some ⟨g, off, none⟩) la ca)) (hy : ev L y = some (.slice (some ⟨g2, off2, none⟩) lb cb)) (hne : g ≠ g2) (h2 : Item.box g2 T2 cs ∈ its) (h2l : cs.length ≠ 0) (h1 : (fun W : World => W.heap[g]? = some (.cells us.toArray T' (0, 0))) ∈ ps) : Yd P N B o (.bool false) L its ps := .mk <| fun a w hfr hW => by
  have hg2 := Box_at hW h2
  have hg1 := hW.fact h1
  have hTo := hT.out
  unfold elT at hTo
  cases hu : P.underlying tS with
  | none => simp [hu] at hTo
  | some dd =>
    cases dd <;> simp [hu] at hTo
    rename_i e2
    obtain ⟨j, hj, rfl, rfl⟩ := hTo
    have hov := Lib.run_overlaps_apart (P := P) w tS tR e2 hu j.size (fun w => by simp [sizeOf, typeInfo, hj]) ⟨g, off, none⟩ ⟨g2, off2, none⟩ la ca lb cb hne T' T2 us.length cs.length (by simp [World.shape?, hg1]) (by simp [World.shape?, hg2]) h2l (by simp [World.frozen?, hg1]) (by simp [World.frozen?, hg1])
    have h3 : (callFunc f #[.slice (some ⟨g, off, none⟩) la ca, .slice (some ⟨g2, off2, none⟩) lb cb]).run P w = .ok (.value (.bool false)) w := by
      rw [run_callFunc_extern hf hname hb hn he, hov]; rfl
    unfold execOp; rw [hop]
    have e0 : a.eval (.func f) = .func (.func f) #[] #[] := rfl
    simp [resolve, e0, Deferred.ofValue, invoke, hfr.ev hx, hfr.ev hy, h3]
end Y
theorem run_copy_sz (w w' : World) (dT sT ty elem : TypeId) (sz g o dLen dCap : Nat) (a : Addr) (sLen sCap : Nat) (us : List Value)
    (hu : P.underlying dT = some (.slice elem)) (hs : (P.info? elem).map (·.size) = some sz) (hn : us.length = Nat.min sLen dLen * sz)
    (hsrc : ∀ j v, us[j]? = some v → w.cell? (a.add j) = some v) (hst : (storeCells ⟨g, o, none⟩ us 0).run P w = .ok () w') :
    (Builtin.copy_ #[dT, sT] ty #[.slice (some ⟨g, o, none⟩) dLen dCap, .slice (some a) sLen sCap]).run P w = .ok (goInt (Nat.min sLen dLen)) w' := by
  have hl := run_firstCells_some (P := P) w sz (Nat.min sLen dLen) a sLen sCap us hn hsrc
  cases hq : P.info? elem with
  | none => simp [hq] at hs
  | some i =>
    have hi : i.size = sz := by simpa [hq] using hs
    simp [Builtin.copy_, run_underlying hu, Builtin.lenOf, sizeOf, typeInfo, hq, hi, hl, hst]
/-- copy(x, y) into a block of the call's own. -/
theorem Jl.copyB {T' ns cc : Nat} {ad : Addr} (us : List Value) (hw : wants ops L o = some true) (hop : o.op = .call { callee := .builtin .copy, args := #[x, y], argTypes := #[T, T] }) (hd : o.dst = some d) (hN : Nat.blt d N = true) (hx : ev L x = some (.slice (some ⟨g, off, none⟩) nd cd)) (hy : ev L y = some (.slice (some ad) ns cc))
    (hT : ElT P T e sz) (hb : Item.box g T' cs ∈ its) (hn : SetAt (.box g T' cs) (.box g T' (wr cs off us)) its its') (hm : us.length = Nat.min ns nd * sz) (hsrc : ∀ w, WS B w its ps → Cells w ad us) (hl : off + us.length ≤ cs.length) (h1 : ∀ u ∈ us, u.oneCell' = true)
    (h : Jl P N B D (k + 1) ops Q rest ((d, .int .i64 ((Nat.min ns nd : Nat) : Int)) :: L) its' ps) (hD : D.takes k = false := by rfl) (hE : D.needs k = false := by rfl) : Jl P N B D k ops Q (o :: rest) L its ps :=
  Jl.e (ι := Unit) (fun _ => .int .i64 ((Nat.min ns nd : Nat) : Int)) (fun _ => its') (fun _ => ps) hw hd hN (fun a w hf hW => by
    obtain ⟨n, hn0, rfl⟩ := hn.at
    have hg := Box_at hW (List.mem_of_getElem? hn0)
    have hTo := hT.out
    unfold elT at hTo
    cases hu : P.underlying T with
    | none => simp [hu] at hTo
    | some dd =>
      cases dd <;> simp [hu] at hTo
      rename_i e2
      obtain ⟨j, hj, rfl, rfl⟩ := hTo
      obtain ⟨w', e1, e2', e3, e4, e5, e6, e7⟩ := storeCells_run (P := P) us 0 ⟨g, off, none⟩ cs w rfl rfl hg (by simpa using hl) h1
      have hr := run_copy_sz (P := P) w w' T T o.type e2 j.size g off nd cd ad ns cc us hu (by simp [hj]) hm (hsrc w hW) e1
      refine ⟨(), w', ?_, fun h' => (by rw [hE] at h'; cases h'), hW.upd hn0 (fun A hA hA0 => ⟨A, ⟨e2', hA.2⟩, fun k hk _ => hk, e3, e4, e5, Nat.le_of_eq e6.symm, fun k hk hn' => e7 k (fun e => hn' ((hA.2 k).2 e))⟩)⟩
      unfold execOp; rw [hop]
      simp [resolve, invoke, builtin, hf.ev hx, hf.ev hy, hr, goInt]) (fun _ => h) hD
/-- append(x, make(..)..) where there is no room: a block of its own. -/
theorem Jl.appZ {S0 : TypeId} {xs : List α} {kn nk : Nat} {j : Int} (hF : Flat dk enc sz) (hw : wants ops L o = some true) (hop : o.op = .call { callee := .builtin .append, args := #[x, y], argTypes := #[T, S0] }) (hd : o.dst = some d) (hN : Nat.blt d N = true) (hx : ev L x = some (.slice A n c)) (hy : ev L y = some (.int .i64 j)) (hj : j = (kn : Int)) (hnk : n + kn = nk)
    (hT : ApT P T e sz bytes) (hS : P.underlying S0 = some (.int .i64)) (hp : (fun w => dk.C w A xs.length xs) ∈ ps) (hnl : n ≤ xs.length) (h0 : 0 < kn) (hc : c < n + kn) (hl : (n + kn) * bytes ≤ 140737488355328) (hl2 : n + kn ≤ 9223372036854775807)
    (h : ∀ (g cap : Nat) (cs : List Value), nk ≤ cap → cap ≤ maxLen → cs.length = cap * sz → cs.take (n * sz) = (xs.take n).flatMap enc → Jl P N B D (k + 1) ops Q rest ((d, .slice (some ⟨g, 0, none⟩) nk cap) :: L) (.box g e cs :: its) ps) (hD : D.takes k = false := by rfl) : Jl P N B D k ops Q (o :: rest) L its ps := by
  subst hj hnk
  refine Jl.e (ι := Σ' (g cap : Nat) (cs : List Value), n + kn ≤ cap ∧ cap ≤ maxLen ∧ cs.length = cap * sz ∧ cs.take (n * sz) = (xs.take n).flatMap enc) (fun q => .slice (some ⟨q.1, 0, none⟩) (n + kn) q.2.1) (fun q => .box q.1 e q.2.2.1 :: its) (fun _ => ps) hw hd hN (fun a w hf hW => ?_) (fun q => h q.1 q.2.1 q.2.2.1 q.2.2.2.1 q.2.2.2.2.1 q.2.2.2.2.2.1 q.2.2.2.2.2.2) hD
  obtain ⟨i, zz, i1, i2, i3, i4, i5⟩ := hT.inf
  have hC := hW.fact hp
  have hfl : ((xs.take n).flatMap enc).length = n * sz := by rw [flat_len hF.len, List.length_take, Nat.min_eq_left hnl]
  have hold : (Builtin.firstCells i.size n (.slice A n c)).run P w.drew = .ok ((xs.take n).flatMap enc).toArray w.drew := by
    rw [i3]
    rcases Nat.eq_zero_or_pos n with h0 | h0
    · subst h0
      cases A with
      | none => simp [Builtin.firstCells]
      | some ad => exact run_firstCells_some (P := P) w.drew sz 0 ad 0 c _ (by simp) (fun j u hu => by simp at hu)
    · obtain ⟨ad, rfl, hcell⟩ := hC.2.2 (by omega)
      refine run_firstCells_some (P := P) w.drew sz n ad n c _ hfl (fun j u hu => ?_)
      rw [flat_get hF.len hF.pos, Option.bind_eq_some_iff] at hu
      obtain ⟨p, hz, hu⟩ := hu
      rw [List.getElem?_take] at hz
      split at hz
      · rename_i hjn
        obtain ⟨cs, c1, c2, c3⟩ := hcell (j / sz) p hz
        have c2' := hF.K _ _ _ c2
        subst c2'
        have := c3 (j % sz) u hu
        rw [hF.hsz, Nat.div_add_mod' j sz] at this
        exact this
      · cases hz
  have hgc := grownCap_ge w (n + kn) c e
  have hgm : grownCap w (n + kn) c e ≤ maxLen := grownCap_le_maxLen w (n + kn) c e (by simp only [maxLen]; omega)
  have hfit := growslice_fits (need := n + kn) (old := c) (bytes := i.bytes) hc (by rw [i4]; exact hl)
  have hr := Lib.run_append_grow_zeros (P := P) w T S0 o.type e i zz .i64 .i64 hT.und hS i1 i2 A n c _ hold kn h0 (by rw [i3]; exact hF.pos) hc (by omega) (by rw [i4]; have : kn * bytes ≤ (n + kn) * bytes := Nat.mul_le_mul_right _ (by omega); omega) hfit
  generalize grownCap w (n + kn) c e = G at hr hgc hgm
  obtain ⟨Z, hZ⟩ : ∃ Z : List Value, Z = (Builtin.zeroCells zz.cells kn).toList ++ (Builtin.zeroCells zz.cells (G - (n + kn))).toList := ⟨_, rfl⟩
  have hZl : Z.length = (G - n) * sz := by
    have e1 : (kn + (G - (n + kn))) * sz = (G - n) * sz := by congr 1; omega
    rw [hZ, List.length_append, ← e1, Nat.add_mul]
    simp [Builtin.zeroCells, i5]
  have hrow : (((xs.take n).flatMap enc).toArray ++ Builtin.zeroCells zz.cells kn ++ Builtin.zeroCells zz.cells (G - (n + kn))) = ((xs.take n).flatMap enc ++ Z).toArray := by
    apply Array.toList_inj.1
    rw [hZ]
    simp
  rw [hrow] at hr
  refine ⟨⟨w.heap.size, G, (xs.take n).flatMap enc ++ Z, hgc, hgm, ?_, ?_⟩, w.drew.alloc (.cells ((xs.take n).flatMap enc ++ Z).toArray e), ?_, fun _ => (below_alloc (Below.refl _ _) _ : Below w.drew.heap.size w.drew _) |> fun h => ⟨h.os, h.tape, h.output, h.size, h.block⟩, ?_⟩
  · rw [List.length_append, hfl, hZl, ← Nat.add_mul]
    congr 1
    omega
  · rw [← hfl, List.take_left]
  · unfold execOp; rw [hop]
    simp [resolve, invoke, builtin, hf.ev hx, hf.ev hy, hr]
  · have hd' : WS B w.drew its ps := hW.call ⟨rfl, rfl, rfl, Nat.le_refl _, fun _ _ => rfl⟩
    have := hd'.alloc e ((xs.take n).flatMap enc ++ Z).toArray
    exact this
theorem flat_set {xs : List α} {p : α} {i : Nat} {cs : List Value} (hl : ∀ x, (enc x).length = sz) (hpos : 0 < sz) (hi : i < xs.length) (hc : xs.length * sz ≤ cs.length) (ht : cs.take (xs.length * sz) = xs.flatMap enc) : (wr cs (i * sz) (enc p)).take (xs.length * sz) = (xs.set i p).flatMap enc := by
  have hin : i * sz + sz ≤ xs.length * sz := by have := Nat.mul_le_mul_right sz (show i + 1 ≤ xs.length from hi); rw [Nat.add_mul, Nat.one_mul] at this; exact this
  have hep := hl p
  apply List.ext_getElem?
  intro j
  rw [flat_get hl hpos, List.getElem?_take, wr_get (by omega), List.getElem?_set, hep]
  have h0 : ∀ j, j < xs.length * sz → cs[j]? = (xs[j / sz]?).bind (fun x => (enc x)[j % sz]?) := fun j hj => by
    rw [← flat_get hl hpos, ← ht, List.getElem?_take, if_pos hj]
  by_cases hj : j < xs.length * sz
  · rw [if_pos hj]
    by_cases h1 : j < i * sz
    · have hd : j / sz < i := (Nat.div_lt_iff_lt_mul hpos).2 h1
      rw [if_pos h1, if_neg (by omega), h0 j hj]
    · rw [if_neg h1]
      by_cases h2 : j < i * sz + sz
      · have hd : j / sz = i := by
          have e1 := (Nat.le_div_iff_mul_le hpos).2 (Nat.le_of_not_lt h1)
          have e2 : j / sz < i + 1 := (Nat.div_lt_iff_lt_mul hpos).2 (by rw [Nat.add_mul, Nat.one_mul]; exact h2)
          omega
        have hm : j % sz = j - i * sz := by
          have := Nat.div_add_mod j sz
          rw [hd, Nat.mul_comm] at this
          omega
        rw [if_pos h2, hd, if_pos rfl, if_pos hi, hm]; rfl
      · have hd : i + 1 ≤ j / sz := (Nat.le_div_iff_mul_le hpos).2 (by rw [Nat.add_mul, Nat.one_mul]; omega)
        rw [if_neg h2, if_neg (by omega), h0 j hj]
  · have hd : xs.length ≤ j / sz := (Nat.le_div_iff_mul_le hpos).2 (by omega)
    rw [if_neg hj, if_neg (by omega), List.getElem?_eq_none hd]; rfl
/-- A whole record is stored into an element of a row of flat records. -/
theorem Jl.storeF {b cap : Nat} {xs : List α} (hF : Flat dk enc sz) (p : α) (i : Nat) (hw : wants ops L o = some true) (hop : o.op = .store T x y) (hd : o.dst = none) (hx : ev L x = some (.pointer (some ⟨g, off, none⟩))) (hy : ev L y = some (.agg (enc p).toArray)) (hT : SzT P T sz) (hn : SetAt (.row dk e b (.slice (some ⟨g, 0, none⟩) n cap) xs) (.row dk e b (.slice (some ⟨g, 0, none⟩) n cap) (xs.set i p)) its its') (hi : i < xs.length) (ho : off = i * sz)
    (h : Jl P N B D (k + 1) ops Q rest L its' ps) (hD : D.takes k = false := by rfl) (hE : D.needs k = false := by rfl) : Jl P N B D k ops Q (o :: rest) L its ps :=
  Jl.un its' hw hd (fun a w hf hW => by
    subst ho
    obtain ⟨m, hn0, rfl⟩ := hn.at
    have key : ∀ {A}, dk.R e w b A (.slice (some ⟨g, 0, none⟩) n cap) xs → ∃ cur : Array Value, A g ∧ n = xs.length ∧ b ≤ g ∧ w.heap[g]? = some (.cells cur e (0, 0)) ∧ n ≤ cap ∧ cap ≤ maxLen ∧ cur.size = cap * sz ∧ cur.toList.take (n * sz) = xs.flatMap enc := fun {A} hR => by
      obtain ⟨q0, hl, hown⟩ := (row_F hF).1 hR
      rcases hown with ⟨e0, _⟩ | ⟨g', cap', cur, e0, h1, h2, h3, h4, h5, h6⟩
      · cases e0
      · simp only [Value.slice.injEq, Option.some.injEq, Addr.mk.injEq, and_true, true_and] at e0
        obtain ⟨rfl, rfl, rfl⟩ := e0
        exact ⟨cur, q0 g rfl, rfl, h1, h2, h3, h4, h5, h6⟩
    obtain ⟨S, hR, _⟩ := hW.item (List.mem_of_getElem? hn0)
    obtain ⟨cur, _, hnl, hbg, hg, hnc, hcm, hcs, hct⟩ := key hR
    subst hnl
    have hfit : i * sz + sz ≤ xs.length * sz := by have := Nat.mul_le_mul_right sz (show i + 1 ≤ xs.length from hi); rw [Nat.add_mul, Nat.one_mul] at this; exact this
    have hfit2 : xs.length * sz ≤ cap * sz := Nat.mul_le_mul_right sz hnc
    have hep := hF.len p
    obtain ⟨w', e1, e2, e3⟩ := store_run (P := P) (us := enc p) (cs := cur.toList) hop (hf.ev hx) (hf.ev hy) (by simp [Value.cells]) (by rw [hep]; exact hT.out) (by simpa using hg) (by simp only [Array.length_toList, List.size_toArray, hcs, hep]; omega) (hF.one p)
    refine ⟨w', e1, hW.upd hn0 (fun A hA _ => ?_)⟩
    obtain ⟨_, hAg, _⟩ := key hA.1
    have hfs := flat_set (p := p) hF.len hF.pos hi (by rw [Array.length_toList (xs := cur), hcs]; exact hfit2) hct
    refine ⟨A, ⟨(row_F hF).2 ⟨fun k hk => ?_, by rw [flat_len hF.len], .inr ⟨g, cap, (wr cur.toList (i * sz) (enc p)).toArray, by rw [List.length_set], hbg, e2, by rw [List.length_set]; exact hnc, hcm, ?_, ?_⟩⟩, fun k hk => Nat.lt_of_lt_of_le (hA.2 k hk) e3.size⟩, fun k hk _ => hk, e3.os, e3.tape, e3.output, e3.size, fun k hk hn' => e3.block k hk (fun e => hn' (e ▸ hAg))⟩
    · have : g = k := by simpa [Value.ownBlock] using hk
      exact this ▸ hAg
    · rw [List.size_toArray, wr_length (by rw [Array.length_toList (xs := cur), hcs, hep]; omega), Array.length_toList (xs := cur), hcs]
    · rw [List.length_set]; exact hfs) h hD hE
/-- What follows is shown once, from a family of states. -/
theorem Cj.cutThen {c1 : Code} {K : Act → World → Prop} {ι : Type} (I : ι → Prop) (Lf : ι → Sl) (If : ι → List Item) (Pf : ι → List (World → Prop)) (h1 : Cj P N B c1 (Exit.then (fun a w => ∃ i, I i ∧ Fr N a (Lf i) ∧ WS B w (If i) (Pf i)) Q) L its ps) (h2 : ∀ i, I i → Ej N B K (Lf i) (If i) (Pf i)) : Cj P N B c1 (Exit.then K Q) L its ps := by
  refine ⟨fun a w hf hw => wp_mono (h1 a w hf hw) ?_⟩
  intro e a w he
  cases e with
  | normal =>
    obtain ⟨i, hi, hf, hw⟩ := he
    exact h2 i hi a w hf hw
  | _ => exact he
/-- A block that stays as it is, whatever is done to what is written, is no part of that. -/
theorem notIn {S : Nat → Prop} {w : World} {gv T : Nat} {us : List Value} (h : ∀ W, Aft S w W → W.heap[gv]? = some (.cells us.toArray T (0, 0))) (h0 : us ≠ []) : ¬ S gv := fun hs => by
  have hlt := blk_lt (h w (Aft.refl _ _))
  have := h { w with heap := w.heap.set gv (.cells #[] T (0, 0)) } ⟨rfl, rfl, rfl, by simp, fun k hk hn => by
    have hne : gv ≠ k := fun e => hn (e ▸ hs)
    simp [Array.getElem?_set, hne]⟩
  simp only [Array.getElem?_set, if_true, Option.some.injEq, Obj.cells.injEq] at this
  exact h0 (by simpa using (congrArg Array.toList this.1).symm)
end
end Go.Proofs.YtkglpfdoefdhdaaW.SL

namespace Go.Proofs.YtkglpfdoefdhdaaW.SL
open Go Go.RowKit Go.Proofs.YtkglpfdoefdhdaaW.PrintWords
set_option linter.unusedSimpArgs false
set_option linter.unusedVariables false
section
variable {P : Program} {N : Nat} {B : Base} {L : Sl} {its its' : List Item} {ps : List (World → Prop)} {Q : Exit → Act → World → Prop} {D : Dm} {k : Nat} {ops : Array Oper} {rest : List Oper} {o : Oper} {T T' off g : Nat} {x y : Operand} {cs us : List Value}
/-- The value of an element of one cell. -/
def hd1 (us : List Value) : Value := us.headD undef
theorem hd1_eq {us : List Value} (h : us.length = 1) : us = [hd1 us] := by
  cases us with
  | nil => cases h
  | cons a l => cases l with
    | nil => rfl
    | cons b l => simp at h
theorem Y.loadE1 (hop : o.op = .load T x) (hx : ev L x = some (.pointer (some ⟨g, off, none⟩))) (hT : ScT P T) (hn : Item.box g T' cs ∈ its) (hu : (cs.drop off).take 1 = us) (hl : us.length = 1) : Yd P N B o (hd1 us) L its ps := .mk <| fun a w hf hW => by
  have hg := Box_at hW hn
  have h1 : w.cell? ⟨g, off, none⟩ = some (hd1 us) := by
    rw [cell_of_row w g off cs.toArray T' (0, 0) hg]
    have := hd1_eq hl
    rw [this] at hu
    have h2 : ((cs.drop off).take 1)[0]? = some (hd1 us) := by rw [hu]; rfl
    rw [List.getElem?_take, if_pos (by omega), List.getElem?_drop] at h2
    simpa using h2
  generalize hd1 us = v at h1 ⊢
  unfold execOp; rw [hop]; simp [hf.ev hx, run_load_one hT.out h1]
theorem Jl.storeB1 (hw : wants ops L o = some true) (hop : o.op = .store T x y) (hd : o.dst = none) (hx : ev L x = some (.pointer (some ⟨g, off, none⟩))) (hy : ev L y = some (hd1 us)) (hT : SzT P T 1) (hn : SetAt (.box g T' cs) (.box g T' (wr cs off us)) its its') (hm : us.length = 1) (hl : off + us.length ≤ cs.length) (h1 : ∀ u ∈ us, u.oneCell' = true)
    (h : Jl P N B D (k + 1) ops Q rest L its' ps) (hD : D.takes k = false := by rfl) (hE : D.needs k = false := by rfl) : Jl P N B D k ops Q (o :: rest) L its ps := by
  have hus := hd1_eq hm
  generalize hd1 us = v at hy hus
  subst hus
  have h1' : v.oneCell' = true := h1 v List.mem_cons_self
  exact Jl.un its' hw hd (fun a w hf hW => by
    obtain ⟨n, hn0, rfl⟩ := hn.at
    have hg := Box_at hW (List.mem_of_getElem? hn0)
    have hv : v.cells.toList = [v] := by cases v <;> first | rfl | cases h1'
    obtain ⟨w', e1, e2, e3⟩ := store_run (P := P) (us := [v]) hop (hf.ev hx) (hf.ev hy) hv hT.out hg hl h1
    exact ⟨w', e1, hW.upd hn0 (fun A hA hA0 => ⟨A, ⟨e2, hA.2⟩, fun k hk _ => hk, e3.os, e3.tape, e3.output, e3.size, fun k hk hn' => e3.block k hk (fun e => hn' ((hA.2 k).2 e))⟩)⟩) h hD hE
end
end Go.Proofs.YtkglpfdoefdhdaaW.SL

namespace Go.Proofs.YtkglpfdoefdhdaaW.Pl
open Go.RowKit Go.Proofs.YtkglpfdoefdhdaaW.PrintWords Classical

theorem w64 {x : Int} (h : -9223372036854775808 ≤ x ∧ x ≤ 9223372036854775807) : wrap64 x = x := by unfold wrap64; omega
theorem mul_b {a b A B : Int} (h0 : 0 ≤ a) (h1 : a ≤ A) (k0 : 0 ≤ b) (k1 : b ≤ B) : 0 ≤ a * b ∧ a * b ≤ A * B :=
  ⟨Int.mul_nonneg h0 k0, Int.mul_le_mul h1 k1 k0 (by omega)⟩

/-- A loop that fills a list place by place. -/
theorem fill_gen {α β : Type} (l : List α) (conv : α → β) (loop : Nat → List β → Int → Option (List β))
    (hstep : ∀ k (acc : List β) (i : Nat) (hi : i < l.length), acc.length = l.length → loop (k + 1) acc (i : Int) = loop k (acc.set i (conv l[i])) ((i + 1 : Nat) : Int))
    (hend : ∀ k (acc : List β), loop (k + 1) acc (l.length : Int) = some acc) (k : Nat) (hk : l.length < k) (acc : List β) (hacc : acc.length = l.length) : loop k acc 0 = some (l.map conv) := by
  have main : ∀ d (i : Nat) (k : Nat) (acc : List β), l.length - i = d → i ≤ l.length → d < k → acc.length = l.length → (∀ j (hj : j < i) (h2 : j < acc.length) (h3 : j < l.length), acc[j] = conv l[j]) → loop k acc (i : Int) = some (l.map conv) := by
    intro d
    induction d with
    | zero =>
      intro i k acc hd hi hk ha hj
      obtain ⟨k, rfl⟩ : ∃ m, k = m + 1 := ⟨k - 1, by omega⟩
      have : i = l.length := by omega
      subst this
      rw [hend]
      congr 1
      apply List.ext_getElem (by simp [ha])
      intro j h1 h2
      simp only [List.getElem_map]
      exact hj j (by omega) h1 (by omega)
    | succ d ih =>
      intro i k acc hd hi hk ha hj
      obtain ⟨k, rfl⟩ : ∃ m, k = m + 1 := ⟨k - 1, by omega⟩
      rw [hstep k acc i (by omega) ha]
      refine ih (i + 1) k _ (by omega) (by omega) (by omega) (by simp [ha]) ?_
      intro j h1 h2 h3
      by_cases e : j = i
      · subst e; simp
      · rw [List.getElem_set_ne (by omega)]
        exact hj j (by omega) (by simpa using h2) h3
  exact main l.length 0 k acc (by omega) (by omega) hk hacc (fun j hj => by omega)

/-- A place of a list (a word that simp leaves alone). -/
def nth {α : Type} (l : List α) (i : Nat) (z : α) : α := l.getD i z
theorem nth_get {α : Type} {l : List α} {i : Nat} {z : α} (h : i < l.length) : nth l i z = l[i] := by
  unfold nth; rw [List.getD_eq_getElem?_getD, List.getElem?_eq_getElem h]; rfl
theorem all_iff_nth {α : Type} {l : List α} {p : α → Bool} (z : α) : l.all p = true ↔ ∀ i, i < l.length → p (nth l i z) = true := by
  rw [List.all_eq_true]
  constructor
  · intro h i hi
    rw [nth_get hi]; exact h _ (List.getElem_mem hi)
  · intro h x hx
    obtain ⟨i, hi, rfl⟩ := List.getElem_of_mem hx
    have := h i hi
    rwa [nth_get hi] at this
theorem range_all {n : Nat} {p : Nat → Bool} : (List.range n).all p = true ↔ ∀ i, i < n → p i = true := by
  rw [List.all_eq_true]; simp
/-! ### with 'from some number of rounds on' -/
theorem Ev.succ {α : Type} {g : Nat → Option α} {r : α} (h : Ev (fun k => g (k + 1)) r) : Ev g r := Ev.step (fun _ => rfl) h
theorem Ev.c {α : Type} {x : Option α} {r : α} (h : x = some r) : Ev (fun _ => x) r := ⟨0, fun _ _ => h⟩
theorem scanE {γ : Type} (n : Nat) (ok : Nat → Bool) (e bad : γ) (loop : Nat → Int → Option γ)
    (hs : ∀ (i : Nat) (r : γ), i < n → ok i = true → Ev (fun k => loop k ((i + 1 : Nat) : Int)) r → Ev (fun k => loop k (i : Int)) r)
    (hb : ∀ (i : Nat), i < n → ok i = false → Ev (fun k => loop k (i : Int)) bad)
    (he : Ev (fun k => loop k (n : Int)) e) : Ev (fun k => loop k 0) (if (List.range n).all ok = true then e else bad) := by
  have main : ∀ d (i : Nat), n - i = d → i ≤ n → Ev (fun k => loop k (i : Int)) (if (∀ j, i ≤ j → j < n → ok j = true) then e else bad) := by
    intro d
    induction d with
    | zero =>
      intro i hd hi
      have : i = n := by omega
      subst this
      rw [if_pos (fun j h1 h2 => by omega)]; exact he
    | succ d ih =>
      intro i hd hi
      cases ho : ok i with
      | true =>
        refine hs i _ (by omega) ho ?_
        have := ih (i + 1) (by omega) (by omega)
        by_cases hall : ∀ j, i ≤ j → j < n → ok j = true
        · rw [if_pos hall]; rwa [if_pos (fun j h1 h2 => hall j (by omega) h2)] at this
        · rw [if_neg hall]; rwa [if_neg (fun h => hall (fun j h1 h2 => by
            by_cases e : j = i
            · subst e; exact ho
            · exact h j (by omega) h2))] at this
      | false =>
        rw [if_neg (fun h => by have := h i (by omega) (by omega); rw [ho] at this; cases this)]
        exact hb i (by omega) ho
  have := main n 0 (by omega) (by omega)
  by_cases hall : ∀ j, 0 ≤ j → j < n → ok j = true
  · rw [if_pos hall] at this
    rw [if_pos (List.all_eq_true.2 (fun j hj => hall j (by omega) (by simpa using hj)))]
    exact this
  · rw [if_neg hall] at this
    rw [if_neg (fun h => hall (fun j _ h2 => List.all_eq_true.1 h j (by simpa using h2)))]
    exact this
/-- One step of a store, beside what follows. -/
theorem bindLen {α γ : Type} {n : Nat} (a : List α) (F : List α → Nat → Option γ) (G : List α → Nat → Option γ) (h : a.length = n) (hF : ∀ a' : List α, a'.length = n → ∃ b : List α, b.length = n ∧ ∀ k, F a' k = G b k) : ∃ b : List α, b.length = n ∧ ∀ k, ((some a).bind fun y => F y k) = G b k := hF a h
theorem stepI (n : Nat) (h : n < 4611686018427387904) : wrap64 ((n : Int) + 1) = ((n + 1 : Nat) : Int) := by
  rw [w64 (by omega)]
  rfl
theorem predI (n : Nat) (h : 1 ≤ n ∧ n < 4611686018427387904) : wrap64 ((n : Int) - 1) = ((n - 1 : Nat) : Int) := by
  rw [w64 (by omega)]
  omega
end Go.Proofs.YtkglpfdoefdhdaaW.Pl

namespace Go.Proofs.Ytkglpfdoefdhdaa.Q
open Go.RowKit Go.Proofs.YtkglpfdoefdhdaaW.PrintWords Go.Proofs.YtkglpfdoefdhdaaW.PrintLast Go.Proofs.YtkglpfdoefdhdaaW.PrintMore
attribute [local go_sem] max2_int min2_int max_two min_two max_three min_three max_four min_four
set_option linter.unusedVariables false
set_option linter.unusedSimpArgs false

end Go.Proofs.Ytkglpfdoefdhdaa.Q
namespace Go.Proofs.Ytkglpfdoefdhdaa.Q
open Go.RowKit Go.Proofs.YtkglpfdoefdhdaaW.PrintWords Go.Proofs.YtkglpfdoefdhdaaW.PrintLast Go.Proofs.YtkglpfdoefdhdaaW.PrintMore
attribute [local go_sem] max2_int min2_int max_two min_two max_three min_three max_four min_four
set_option linter.unusedVariables false
set_option linter.unusedSimpArgs false

end Go.Proofs.Ytkglpfdoefdhdaa.Q
namespace Go.Proofs.Ytkglpfdoefdhdaa.Q
open Go.RowKit Go.Proofs.YtkglpfdoefdhdaaW.PrintWords Go.Proofs.YtkglpfdoefdhdaaW.PrintLast Go.Proofs.YtkglpfdoefdhdaaW.PrintMore
attribute [local go_sem] max2_int min2_int max_two min_two max_three min_three max_four min_four
set_option linter.unusedVariables false
set_option linter.unusedSimpArgs false

end Go.Proofs.Ytkglpfdoefdhdaa.Q
namespace Go.Proofs.Ytkglpfdoefdhdaa.Q
open Go.RowKit Go.Proofs.YtkglpfdoefdhdaaW.PrintWords Go.Proofs.YtkglpfdoefdhdaaW.PrintLast Go.Proofs.YtkglpfdoefdhdaaW.PrintMore
attribute [local go_sem] max2_int min2_int max_two min_two max_three min_three max_four min_four
set_option linter.unusedVariables false
set_option linter.unusedSimpArgs false

/-! ### laws_szIntS: function 107 -/
def laws_szIntS.f (l0 : List Int) (a1 : Int) : Option (Int) := if (wrap64 (a1 - (l0.length : Int))) < 0 then (some (-1)) else (some (wrap64 (a1 - (l0.length : Int))))
set_option maxHeartbeats 8000000 in
set_option maxRecDepth 100000 in
theorem laws_szIntS.calls (A0 : Option Addr) (c0 : Nat) (l0 : List Int) (a1 : Int) (r : Int) (w : World) (hr0 : Kd.C (Kd.int .i64) w A0 l0.length l0) (hc0 : l0.length ≤ c0) (h : laws_szIntS.f l0 a1 = some r) :
  Calls Try.prog 107 #[.slice A0 l0.length c0, .int .i64 a1] w fun e w' => e = .returned (.int .i64 r) ∧ Drawn0 w w' := by
 have HR0 := Aside0.mk hr0
 have HC0 := Aside0.mk hc0
 clear hr0 hc0
 have H : (if (wrap64 (a1 - (l0.length : Int))) < 0 then (some (-1)) else (some (wrap64 (a1 - (l0.length : Int))))) = some r := h
 clear h
 by_cases c3 : (wrap64 (a1 - (l0.length : Int))) < 0
 ·rw [if_pos c3] at H
  have c3b0 : decide ((wrap64 (a1 - (l0.length : Int))) < 0) = true := decide_eq_true c3
  clear c3
  obtain rfl := Option.some.inj H
  go_enter Try.func107, Try.ntmps107
  go_wp2
  go_ret
  exact ⟨by first | rfl | (simp; done) | (simp [*]; done), by repeat (first | exact Drawn0.refl _ | apply Drawn0.step)⟩
 ·rw [if_neg c3] at H
  have c3b0 : decide ((wrap64 (a1 - (l0.length : Int))) < 0) = false := decide_eq_false c3
  clear c3
  obtain rfl := Option.some.inj H
  go_enter Try.func107, Try.ntmps107
  go_wp2
  go_ret
  exact ⟨by first | rfl | (simp; done) | (simp [*]; done), by repeat (first | exact Drawn0.refl _ | apply Drawn0.step)⟩

end Go.Proofs.Ytkglpfdoefdhdaa.Q
namespace Go.Proofs.Ytkglpfdoefdhdaa.Q
open Go.RowKit Go.Proofs.YtkglpfdoefdhdaaW.PrintWords Go.Proofs.YtkglpfdoefdhdaaW.PrintLast Go.Proofs.YtkglpfdoefdhdaaW.PrintMore
attribute [local go_sem] max2_int min2_int max_two min_two max_three min_three max_four min_four
set_option linter.unusedVariables false
set_option linter.unusedSimpArgs false

/-! ### laws_szChart: function 27 -/
def laws_szChart.f (a0_0 : Int) (a0_1 : Int) (l0_2 : List Int) (a1 : Int) : Option (Int) := (laws_szIntS.f l0_2 a1).bind fun t102 => (if t102 < 0 then (some (-1)) else (some t102))
set_option maxHeartbeats 8000000 in
set_option maxRecDepth 100000 in
theorem laws_szChart.calls (a0_0 : Int) (a0_1 : Int) (A0_2 : Option Addr) (c0_2 : Nat) (l0_2 : List Int) (a1 : Int) (r : Int) (w : World) (hr0_2 : Kd.C (Kd.int .i64) w A0_2 l0_2.length l0_2) (hc0_2 : l0_2.length ≤ c0_2) (h : laws_szChart.f a0_0 a0_1 l0_2 a1 = some r) :
  Calls Try.prog 27 #[.agg #[.int .i64 a0_0, .int .i64 a0_1, .slice A0_2 l0_2.length c0_2], .int .i64 a1] w fun e w' => e = .returned (.int .i64 r) ∧ Below w.heap.size w w' := by
 have hu46 := Try.underlying46
 have HR0_2 := Aside0.mk hr0_2
 have HC0_2 := Aside0.mk hc0_2
 clear hr0_2 hc0_2
 have HB := Aside0.mk (Below.refl w.heap.size w)
 have H : ((laws_szIntS.f l0_2 a1).bind fun t102 => (if t102 < 0 then (some (-1)) else (some t102))) = some r := h
 clear h
 replace H := Option.bind_eq_some_iff.mp H
 obtain ⟨t102, A30, H⟩ := H
 have A3 := Aside0.mk A30
 clear A30
 by_cases c4 : t102 < 0
 ·rw [if_pos c4] at H
  have c4b0 : decide (t102 < 0) = true := decide_eq_true c4
  clear c4
  obtain rfl := Option.some.inj H
  go_enter Try.func27, Try.ntmps27
  go_wp2_with (first | ((with_reducible refine gate_dst (N := 2) rfl ?_); refine box_event ?hg (N := 2) ?hd (cs := #[.int .i64 a0_0, .int .i64 a0_1, .slice A0_2 l0_2.length c0_2]) (t := 46) ?hr ?_; (case hd => rfl); (case hg => rfl); (case hr => first | (go_simp; done) | (go_simp; rfl)); intro gb101 hg w5 hbox hb; have n0_ := Aside0.mk (below_step (by repeat (first | (with_reducible first | exact HB.out | apply below_alloc | apply pw_below_drewN | apply below_drew1) | exact HB.out)) hb); have n1_ := Aside0.mk (hbox); have n2_ := Aside0.mk ((by rw [hg]; exact (below_size (by repeat (first | (with_reducible first | exact HB.out | apply below_alloc | apply pw_below_drewN | apply below_drew1) | exact HB.out))) : w.heap.size ≤ gb101)); have n3_ := Aside0.mk ((by rw [hg]; exact (below_size (by repeat (first | (with_reducible first | exact HB.out | apply below_alloc | apply pw_below_drewN | apply below_drew1) | exact HB.out))) : w.heap.size ≤ gb101)); clear HB; have HB := n0_; have BK101 := n1_; have GW101 := n2_; have GE101 := n3_; clear n0_ n1_ n2_ n3_; clear hb hbox hg; have hcz6_0 : w5.cell? ⟨gb101, 0, none⟩ = some (.int .i64 a0_0) := (blk_cell BK101.out 0).trans rfl; have hcz6_1 : w5.cell? ⟨gb101, 1, none⟩ = some (.int .i64 a0_1) := (blk_cell BK101.out 1).trans rfl; have hcz6_2 : w5.cell? ⟨gb101, 2, none⟩ = some (.slice A0_2 l0_2.length c0_2) := (blk_cell BK101.out 2).trans rfl; have hfz6_0 := blk_frozen BK101.out 0; have hfz6_1 := blk_frozen BK101.out 1; have hfz6_2 := blk_frozen BK101.out 2) | ((with_reducible refine gate_callee (f := 107) rfl ?_); refine goesL_ (some 8) rfl rfl Try.func107 (by kernel_rfl) rfl #[.slice A0_2 l0_2.length c0_2, .int .i64 a1] rfl (by (try simp only [List.map_toArray, List.map_cons, List.map_nil]); first | done | rfl | (simp only [List.length_drop, List.length_take]; rfl)) ?_; (with_reducible refine (laws_szIntS.calls _ _ l0_2 a1 t102 _ ?side1 ?side2 A3.out).mono ?_); (case side1 => repeat (first | exact (Kd.C_below HR0_2.out HB.out) | (with_reducible refine Kd.C_alloc ?_ _) | (with_reducible refine Kd.C_drewN ?_ _) | (with_reducible refine Kd.C_drew ?_))); (case side2 => exact HC0_2.out); rintro e w' ⟨rfl, ⟨nd, rfl⟩⟩; refine ⟨_, rfl, ?_⟩))
  go_ret
  exact ⟨by first | rfl | (simp [errW_none, errW_some] <;> rfl) | (simp [*, errW_none, errW_some] <;> rfl) | (simp [wrap64]; done), by repeat (first | (with_reducible first | exact HB.out | apply below_alloc | apply pw_below_drewN | apply below_drew1 | refine below_set ?_ GE101.out) | exact HB.out)⟩
 ·rw [if_neg c4] at H
  have c4b0 : decide (t102 < 0) = false := decide_eq_false c4
  clear c4
  obtain rfl := Option.some.inj H
  go_enter Try.func27, Try.ntmps27
  go_wp2_with (first | ((with_reducible refine gate_dst (N := 2) rfl ?_); refine box_event ?hg (N := 2) ?hd (cs := #[.int .i64 a0_0, .int .i64 a0_1, .slice A0_2 l0_2.length c0_2]) (t := 46) ?hr ?_; (case hd => rfl); (case hg => rfl); (case hr => first | (go_simp; done) | (go_simp; rfl)); intro gb101 hg w7 hbox hb; have n0_ := Aside0.mk (below_step (by repeat (first | (with_reducible first | exact HB.out | apply below_alloc | apply pw_below_drewN | apply below_drew1) | exact HB.out)) hb); have n1_ := Aside0.mk (hbox); have n2_ := Aside0.mk ((by rw [hg]; exact (below_size (by repeat (first | (with_reducible first | exact HB.out | apply below_alloc | apply pw_below_drewN | apply below_drew1) | exact HB.out))) : w.heap.size ≤ gb101)); have n3_ := Aside0.mk ((by rw [hg]; exact (below_size (by repeat (first | (with_reducible first | exact HB.out | apply below_alloc | apply pw_below_drewN | apply below_drew1) | exact HB.out))) : w.heap.size ≤ gb101)); clear HB; have HB := n0_; have BK101 := n1_; have GW101 := n2_; have GE101 := n3_; clear n0_ n1_ n2_ n3_; clear hb hbox hg; have hcz8_0 : w7.cell? ⟨gb101, 0, none⟩ = some (.int .i64 a0_0) := (blk_cell BK101.out 0).trans rfl; have hcz8_1 : w7.cell? ⟨gb101, 1, none⟩ = some (.int .i64 a0_1) := (blk_cell BK101.out 1).trans rfl; have hcz8_2 : w7.cell? ⟨gb101, 2, none⟩ = some (.slice A0_2 l0_2.length c0_2) := (blk_cell BK101.out 2).trans rfl; have hfz8_0 := blk_frozen BK101.out 0; have hfz8_1 := blk_frozen BK101.out 1; have hfz8_2 := blk_frozen BK101.out 2) | ((with_reducible refine gate_callee (f := 107) rfl ?_); refine goesL_ (some 8) rfl rfl Try.func107 (by kernel_rfl) rfl #[.slice A0_2 l0_2.length c0_2, .int .i64 a1] rfl (by (try simp only [List.map_toArray, List.map_cons, List.map_nil]); first | done | rfl | (simp only [List.length_drop, List.length_take]; rfl)) ?_; (with_reducible refine (laws_szIntS.calls _ _ l0_2 a1 t102 _ ?side1 ?side2 A3.out).mono ?_); (case side1 => repeat (first | exact (Kd.C_below HR0_2.out HB.out) | (with_reducible refine Kd.C_alloc ?_ _) | (with_reducible refine Kd.C_drewN ?_ _) | (with_reducible refine Kd.C_drew ?_))); (case side2 => exact HC0_2.out); rintro e w' ⟨rfl, ⟨nd, rfl⟩⟩; refine ⟨_, rfl, ?_⟩))
  go_ret
  exact ⟨by first | rfl | (simp [errW_none, errW_some] <;> rfl) | (simp [*, errW_none, errW_some] <;> rfl) | (simp [wrap64]; done), by repeat (first | (with_reducible first | exact HB.out | apply below_alloc | apply pw_below_drewN | apply below_drew1 | refine below_set ?_ GE101.out) | exact HB.out)⟩

end Go.Proofs.Ytkglpfdoefdhdaa.Q
namespace Go.Proofs.Ytkglpfdoefdhdaa.Q
open Go.RowKit Go.Proofs.YtkglpfdoefdhdaaW.PrintWords Go.Proofs.YtkglpfdoefdhdaaW.PrintLast Go.Proofs.YtkglpfdoefdhdaaW.PrintMore
attribute [local go_sem] max2_int min2_int max_two min_two max_three min_three max_four min_four
set_option linter.unusedVariables false
set_option linter.unusedSimpArgs false

/-! ### laws_szFlawS: function 28 -/
def laws_szFlawS.f (l0 : List (S48)) (a1 : Int) : Option (Int) := if (wrap64 (a1 - (l0.length : Int))) < 0 then (some (-1)) else (some (wrap64 (a1 - (l0.length : Int))))
set_option maxHeartbeats 8000000 in
set_option maxRecDepth 100000 in
theorem laws_szFlawS.calls (A0 : Option Addr) (c0 : Nat) (l0 : List (S48)) (a1 : Int) (r : Int) (w : World) (hr0 : Kd.C k48 w A0 l0.length l0) (hc0 : l0.length ≤ c0) (h : laws_szFlawS.f l0 a1 = some r) :
  Calls Try.prog 28 #[.slice A0 l0.length c0, .int .i64 a1] w fun e w' => e = .returned (.int .i64 r) ∧ Drawn0 w w' := by
 have HR0 := Aside0.mk hr0
 have HC0 := Aside0.mk hc0
 clear hr0 hc0
 have H : (if (wrap64 (a1 - (l0.length : Int))) < 0 then (some (-1)) else (some (wrap64 (a1 - (l0.length : Int))))) = some r := h
 clear h
 by_cases c3 : (wrap64 (a1 - (l0.length : Int))) < 0
 ·rw [if_pos c3] at H
  have c3b0 : decide ((wrap64 (a1 - (l0.length : Int))) < 0) = true := decide_eq_true c3
  clear c3
  obtain rfl := Option.some.inj H
  go_enter Try.func28, Try.ntmps28
  go_wp2
  go_ret
  exact ⟨by first | rfl | (simp; done) | (simp [*]; done), by repeat (first | exact Drawn0.refl _ | apply Drawn0.step)⟩
 ·rw [if_neg c3] at H
  have c3b0 : decide ((wrap64 (a1 - (l0.length : Int))) < 0) = false := decide_eq_false c3
  clear c3
  obtain rfl := Option.some.inj H
  go_enter Try.func28, Try.ntmps28
  go_wp2
  go_ret
  exact ⟨by first | rfl | (simp; done) | (simp [*]; done), by repeat (first | exact Drawn0.refl _ | apply Drawn0.step)⟩

end Go.Proofs.Ytkglpfdoefdhdaa.Q
namespace Go.Proofs.Ytkglpfdoefdhdaa.Q
open Go.RowKit Go.Proofs.YtkglpfdoefdhdaaW.PrintWords Go.Proofs.YtkglpfdoefdhdaaW.PrintLast Go.Proofs.YtkglpfdoefdhdaaW.PrintMore
attribute [local go_sem] max2_int min2_int max_two min_two max_three min_three max_four min_four
set_option linter.unusedVariables false
set_option linter.unusedSimpArgs false

/-! ### laws_markIntS: function 38 -/
def laws_markIntS.l0 : Nat → List Int → Int → Int → Option (Int × List Int)
 | 0, _, _, _ => none
 | k + 1, x0, x1, x5 => if x5 < (x0.length : Int) then (if 0 ≤ x5 then (laws_markIntS.l0 k (x0.set (x5 : Int).toNat x1) (wrap64 (x1 + 1)) (wrap64 (x5 + 1))) else (none)) else (some (x1, x0))
def laws_markIntS.f (k : Nat) (l0 : List Int) (a1 : Int) : Option (Int × List Int) := laws_markIntS.l0 k l0 a1 0
set_option maxHeartbeats 8000000 in
set_option maxRecDepth 100000 in
theorem laws_markIntS.calls (k : Nat) (P0_ : Nat → Prop) (u9000_ : Value) (l0 : List Int) (a1 : Int) (r1 : Int) (r2 : List Int) (w0 w : World) (hB : Below w0.heap.size w0 w) (ho0 : Kd.R (Kd.int .i64) 3 w w0.heap.size P0_ u9000_ l0) (h : laws_markIntS.f k l0 a1 = some (r1, r2)) :
  Calls Try.prog 38 #[u9000_, .int .i64 a1] w fun e w' => e = .returned (.int .i64 r1) ∧ Kd.R (Kd.int .i64) 3 w' w0.heap.size (fun k_ => (P0_ k_ ∨ w.heap.size ≤ k_)) u9000_ r2 ∧ Below w0.heap.size w0 w' ∧ Kept w w' (fun k_ => P0_ k_) := by
 have HO0 := Aside0.mk (show Kd.R (Kd.int .i64) 3 w w0.heap.size (fun k_ => (P0_ k_ ∨ w.heap.size ≤ k_)) u9000_ l0 from Kd.R_mono ho0 (fun k_ hk => (.inl hk)))
 have HK := Aside0.mk (Kept.refl w (fun k_ => P0_ k_))
 have HW0 := Aside0.mk hB.size
 have HB := Aside0.mk hB
 clear hB
 have H : (laws_markIntS.l0 k l0 a1 0) = some (r1, r2) := h
 clear h
 have H' := Aside0.mk H
 clear H
 go_enter Try.func38, Try.ntmps38
 go_wp2
 go_loopg [1, 5] k (fun kq v1 v5 w' => ∃ (x0_1 : List Int) (x1_1 : Int) (x5_1 : Int), v1 = .int .i64 x1_1 ∧ v5 = .int .i64 x5_1 ∧ Aside0 (laws_markIntS.l0 kq x0_1 x1_1 x5_1 = some (r1, r2)) ∧ Aside0 (kq ≤ k) ∧ Aside0 (Kd.R (Kd.int .i64) 3 w' w0.heap.size (fun k_ => (P0_ k_ ∨ w.heap.size ≤ k_)) u9000_ x0_1) ∧ Aside0 (Kept w w' (fun k_ => P0_ k_)) ∧ Aside0 (Below w0.heap.size w0 w'))
 case atStart => exact ⟨(l0), (a1), (0), (by first | rfl | (simp; done) | (simp [*]; done)), (by first | rfl | (simp; done) | (simp [*]; done)), H', ⟨Nat.le_refl _⟩, ⟨by (with_reducible repeat (first | apply Kd.R_alloc | apply Kd.R_drewN | apply Kd.R_drew)); exact HO0.out⟩, ⟨by repeat (first | (with_reducible first | exact HK.out | apply Kept.alloc | apply Kept.drewN | apply Kept.drew) | exact HK.out)⟩, ⟨by repeat (first | (with_reducible first | exact HB.out | apply below_alloc | apply pw_below_drewN | apply below_drew1) | exact HB.out)⟩⟩
 case round =>
  clear H'
  try clear p2
  obtain ⟨x0_1, x1_1, x5_1, rfl, rfl, HA, HK1, HO_0, HK, HB⟩ := hrel
  cases gk with
  | zero => exact absurd HA.out (by simp [laws_markIntS.l0])
  | succ k1 =>
   have H := HA.out
   clear HA
   simp only [laws_markIntS.l0] at H
   by_cases c3 : x5_1 < (x0_1.length : Int)
   ·rw [if_pos c3] at H
    have c3b0 : decide (x5_1 < (x0_1.length : Int)) = true := decide_eq_true c3
    clear c3
    by_cases c4 : 0 ≤ x5_1
    ·rw [if_pos c4] at H
     have c4b0 : decide (0 ≤ x5_1) = true := decide_eq_true c4
     clear c4
     obtain ⟨y119, hy119⟩ : ∃ y_ : List Int, y_ = (x0_1.set (x5_1 : Int).toNat x1_1) := ⟨_, rfl⟩
     replace H : (laws_markIntS.l0 k1 y119 (wrap64 (x1_1 + 1)) (wrap64 (x5_1 + 1))) = some (r1, r2) := by first | (rw [hy119]; with_reducible exact H) | (have H2_ := (Option.bind_some _ _).symm.trans H; rw [hy119]; with_reducible exact H2_) | (have H2_ := (Option.bind_some _ _).symm.trans H; with_reducible exact H2_) | with_reducible exact H | (rw [hy119]; exact H) | exact H
     have Ny119 := Aside0.mk hy119
     clear hy119
     have H' := Aside0.mk H
     clear H
     obtain ⟨Ao6, co6, eo6⟩ := Kd.R_slice HO_0.out
     subst eo6
     have p5 : 0 ≤ (x5_1 : Int) := of_decide_eq_true (by first | (with_reducible assumption) | assumption)
     have q5 : (x5_1 : Int) < ((x0_1.length : Int) : Int) := of_decide_eq_true (by first | (with_reducible assumption) | assumption)
     obtain ⟨go5, co5, eo5, gb5, gl5, cl5, HG5⟩ := Kd.R_form HO_0.out (by omega)
     (first | cases eo5 | (injection eo5 with ea_ en_ ec_; (first | subst ea_ | (injection ea_ with ea_; subst ea_)); subst ec_; clear en_))
     have GB5 := Aside0.mk gb5
     have GG5 := Aside0.mk HG5
     clear gb5 gl5 HG5
     have HMgo5 := Aside0.mk (show (P0_ go5 ∨ w.heap.size ≤ go5) from (HO_0.out.1 _ rfl))
     obtain ⟨hx5_0, hf5_0⟩ := Kd.R_celln 0 HO_0.out (x5_1 : Int) p5 q5
     replace p5 := eq_true p5
     replace q5 := eq_true q5
     have HP7 := Kd.R_putg HO_0.out (x5_1 : Int) x1_1
     go_wp2_with (first | ((with_reducible refine gate_store (t := 3) (p := 15) rfl ?_); refine store_event (t := 3) (p := 15) (v := ?vo_w8) (w1 := (wr.setCell ⟨go5, (x5_1 : Int).toNat, none⟩ (.int .i64 x1_1))) ?hg ?ho ?hn ?hr ?_; (case ho => rfl); (case hg => rfl); (case hn => rfl); (case hr => first | (go_simp; done) | (go_simp; rfl)); intro w8 hw; have hg : wr.grownBy w8 (some go5) := (by rw [hw]; exact HP7.2); have hp_ : Kd.R (Kd.int .i64) 3 w8 w0.heap.size (fun k_ => (P0_ k_ ∨ w.heap.size ≤ k_)) (.slice (some ⟨go5, 0, none⟩) x0_1.length co6) y119 := (by rw [hw, Ny119.out]; exact HP7.1); clear HP7; have n0_ := Aside0.mk (hp_); have n1_ := Aside0.mk ((by rw [hw]; exact below_set (HB.out) GB5.out : Below w0.heap.size w0 w8)); have n2_ := Aside0.mk (Kept.of_grown (S := (fun k_ => P0_ k_)) hg (by repeat (first | (with_reducible first | exact HK.out | apply Kept.alloc | apply Kept.drewN | apply Kept.drew) | exact HK.out)) (fun k_ e_ => (HO_0.out.1 k_ e_))); clear HO_0; clear HB; clear HK; have HO_0 := n0_; have HB := n1_; have HK := n2_; clear n0_ n1_ n2_; clear hg hw hp_))
     go_roundg k1
     case measure => have := HK1.out; omega
     case rel => exact ⟨(y119), (wrap64 (x1_1 + 1)), (wrap64 (x5_1 + 1)), (by first | rfl | (simp; done) | (simp [*]; done)), (by first | rfl | (simp; done) | (simp [*]; done)), H', ⟨by have := HK1.out; omega⟩, ⟨by (with_reducible repeat (first | apply Kd.R_alloc | apply Kd.R_drewN | apply Kd.R_drew)); exact HO_0.out⟩, ⟨by repeat (first | (with_reducible first | exact HK.out | apply Kept.alloc | apply Kept.drewN | apply Kept.drew) | exact HK.out)⟩, ⟨by repeat (first | (with_reducible first | exact HB.out | apply below_alloc | apply pw_below_drewN | apply below_drew1) | exact HB.out)⟩⟩
    ·rw [if_neg c4] at H
     exact absurd H (by simp)
   ·rw [if_neg c3] at H
    have c3b0 : decide (x5_1 < (x0_1.length : Int)) = false := decide_eq_false c3
    clear c3
    simp only [Option.some.injEq, Prod.mk.injEq] at H
    obtain ⟨rfl, rfl⟩ := H
    obtain ⟨Ao9, co9, eo9⟩ := Kd.R_slice HO_0.out
    subst eo9
    go_wp2
    go_ret
    exact ⟨by first | rfl | (simp [errW_none, errW_some] <;> rfl) | (simp [*, errW_none, errW_some] <;> rfl) | (simp [wrap64]; done), by (with_reducible repeat (first | apply Kd.R_alloc | apply Kd.R_drewN | apply Kd.R_drew)); exact HO_0.out, by repeat (first | (with_reducible first | exact HB.out | apply below_alloc | apply pw_below_drewN | apply below_drew1) | exact HB.out), by repeat (first | (with_reducible first | exact HK.out | apply Kept.alloc | apply Kept.drewN | apply Kept.drew) | exact HK.out)⟩

end Go.Proofs.Ytkglpfdoefdhdaa.Q
namespace Go.Proofs.Ytkglpfdoefdhdaa.Q
open Go.RowKit Go.Proofs.YtkglpfdoefdhdaaW.PrintWords Go.Proofs.YtkglpfdoefdhdaaW.PrintLast Go.Proofs.YtkglpfdoefdhdaaW.PrintMore
attribute [local go_sem] max2_int min2_int max_two min_two max_three min_three max_four min_four
set_option linter.unusedVariables false
set_option linter.unusedSimpArgs false

/-! ### laws_markChart: function 34 -/
def laws_markChart.f (k : Nat) (a0_0 : Int) (a0_1 : Int) (l0_2 : List Int) (a1 : Int) : Option (Int × List Int) := (laws_markIntS.f k l0_2 a1).bind fun bt121 => (some (bt121.1, bt121.2))
set_option maxHeartbeats 8000000 in
set_option maxRecDepth 100000 in
theorem laws_markChart.calls (k : Nat) (a0_0 : Int) (a0_1 : Int) (P0_2_ : Nat → Prop) (u9000_ : Value) (l0_2 : List Int) (a1 : Int) (r1 : Int) (r2 : List Int) (w0 w : World) (hB : Below w0.heap.size w0 w) (ho0_2 : Kd.R (Kd.int .i64) 3 w w0.heap.size P0_2_ u9000_ l0_2) (h : laws_markChart.f k a0_0 a0_1 l0_2 a1 = some (r1, r2)) :
  Calls Try.prog 34 #[.agg #[.int .i64 a0_0, .int .i64 a0_1, u9000_], .int .i64 a1] w fun e w' => e = .returned (.int .i64 r1) ∧ Kd.R (Kd.int .i64) 3 w' w0.heap.size (fun k_ => (P0_2_ k_ ∨ w.heap.size ≤ k_)) u9000_ r2 ∧ Below w0.heap.size w0 w' ∧ Kept w w' (fun k_ => P0_2_ k_) := by
 have hu26 := Try.underlying26
 have HO0_2 := Aside0.mk (show Kd.R (Kd.int .i64) 3 w w0.heap.size (fun k_ => (P0_2_ k_ ∨ w.heap.size ≤ k_)) u9000_ l0_2 from Kd.R_mono ho0_2 (fun k_ hk => (.inl hk)))
 have HK := Aside0.mk (Kept.refl w (fun k_ => P0_2_ k_))
 have HW0 := Aside0.mk hB.size
 have HB := Aside0.mk hB
 clear hB
 have H : ((laws_markIntS.f k l0_2 a1).bind fun bt121 => (some (bt121.1, bt121.2))) = some (r1, r2) := h
 clear h
 replace H := Option.bind_eq_some_iff.mp H
 obtain ⟨⟨t121, t122⟩, A30, H⟩ := H
 have A3 := Aside0.mk A30
 clear A30
 simp only [Option.some.injEq, Prod.mk.injEq] at H
 obtain ⟨rfl, rfl⟩ := H
 obtain ⟨Ao4, co4, eo4⟩ := Kd.R_slice HO0_2.out
 subst eo4
 go_enter Try.func34, Try.ntmps34
 go_wp2_with (first | ((with_reducible refine gate_dst (N := 2) rfl ?_); refine box_event ?hg (N := 2) ?hd (cs := #[.int .i64 a0_0, .int .i64 a0_1, .slice Ao4 l0_2.length co4]) (t := 26) ?hr ?_; (case hd => rfl); (case hg => rfl); (case hr => first | (go_simp; done) | (go_simp; rfl)); intro gb120 hg w5 hbox hb; have n0_ := Aside0.mk (Kd.R_below (by (with_reducible repeat (first | apply Kd.R_alloc | apply Kd.R_drewN | apply Kd.R_drew)); exact HO0_2.out) hb); have n1_ := Aside0.mk (Kept.below (S := (fun k_ => P0_2_ k_)) (by repeat (first | (with_reducible first | exact HK.out | apply Kept.alloc | apply Kept.drewN | apply Kept.drew) | exact HK.out)) hb); have n2_ := Aside0.mk (below_step (by repeat (first | (with_reducible first | exact HB.out | apply below_alloc | apply pw_below_drewN | apply below_drew1) | exact HB.out)) hb); have n3_ := Aside0.mk (hbox); have n4_ := Aside0.mk ((by rw [hg]; exact (by first | exact HK.out.1 | exact (show Kept w _ (fun k_ => P0_2_ k_) from by repeat (first | (with_reducible first | exact HK.out | apply Kept.alloc | apply Kept.drewN | apply Kept.drew) | exact HK.out)).1) : w.heap.size ≤ gb120)); have n5_ := Aside0.mk ((by rw [hg]; exact (below_size (by repeat (first | (with_reducible first | exact HB.out | apply below_alloc | apply pw_below_drewN | apply below_drew1) | exact HB.out))) : w0.heap.size ≤ gb120)); clear HO0_2; clear HK; clear HB; have HO0_2 := n0_; have HK := n1_; have HB := n2_; have BK120 := n3_; have GW120 := n4_; have GE120 := n5_; clear n0_ n1_ n2_ n3_ n4_ n5_; clear hb hbox hg; have hcz6_0 : w5.cell? ⟨gb120, 0, none⟩ = some (.int .i64 a0_0) := (blk_cell BK120.out 0).trans rfl; have hcz6_1 : w5.cell? ⟨gb120, 1, none⟩ = some (.int .i64 a0_1) := (blk_cell BK120.out 1).trans rfl; have hcz6_2 : w5.cell? ⟨gb120, 2, none⟩ = some (.slice Ao4 l0_2.length co4) := (blk_cell BK120.out 2).trans rfl; have hfz6_0 := blk_frozen BK120.out 0; have hfz6_1 := blk_frozen BK120.out 1; have hfz6_2 := blk_frozen BK120.out 2) | ((with_reducible refine gate_callee (f := 38) rfl ?_); refine goesL_ (some 8) rfl rfl Try.func38 (by kernel_rfl) rfl #[.slice Ao4 l0_2.length co4, .int .i64 a1] rfl (by (try simp only [List.map_toArray, List.map_cons, List.map_nil]); first | done | rfl | (simp only [List.length_drop, List.length_take]; rfl)) ?_; (with_reducible refine (laws_markIntS.calls k (fun k_ => some k_ = (.slice Ao4 l0_2.length co4 : Value).ownBlock) (.slice Ao4 l0_2.length co4) l0_2 a1 t121 t122 w0 _ ?side1 ?side2 A3.out).mono ?_); (case side1 => repeat (first | (with_reducible first | exact HB.out | apply below_alloc | apply pw_below_drewN | apply below_drew1 | refine below_set ?_ GE120.out) | exact HB.out)); (case side2 => exact Kd.R_tight rfl HO0_2.out); rintro e w7 ⟨rfl, hy0, hb, hkp⟩; refine ⟨_, rfl, ?_⟩; have n0_ := Aside0.mk (Kd.R_reok rfl hy0 (fun k_ e_ => HO0_2.out.1 k_ e_)); have n1_ := Aside0.mk (blk_kept (by (with_reducible repeat (first | refine blk_drewN ?_ _ | refine blk_drew ?_ | refine blk_alloc ?_ _)); exact BK120.out) hkp (fun hs_ => (fun e_ => (Kd.R_ne HO0_2.out BK120.out (by decide)) e_) hs_)); have n2_ := Aside0.mk (Kept.then_ (S := (fun k_ => P0_2_ k_)) (by repeat (first | (with_reducible first | exact HK.out | apply Kept.alloc | apply Kept.drewN | apply Kept.drew | refine Kept.setCell ?_ (.inr GW120.out) _) | exact HK.out)) hkp (fun k_ hs_ => (fun e_ => (HO0_2.out.1 k_ e_.symm)) hs_)); have n3_ := Aside0.mk (hb); clear HO0_2; clear BK120; clear HK; clear HB; have HO0_2 := n0_; have BK120 := n1_; have HK := n2_; have HB := n3_; clear n0_ n1_ n2_ n3_; (try clear hb); (try clear hkp); (try clear hy0)))
 go_ret
 exact ⟨by first | rfl | (simp [errW_none, errW_some] <;> rfl) | (simp [*, errW_none, errW_some] <;> rfl) | (simp [wrap64]; done), by (with_reducible repeat (first | apply Kd.R_alloc | apply Kd.R_drewN | apply Kd.R_drew)); exact HO0_2.out, by repeat (first | (with_reducible first | exact HB.out | apply below_alloc | apply pw_below_drewN | apply below_drew1 | refine below_set ?_ GE120.out) | exact HB.out), by repeat (first | (with_reducible first | exact HK.out | apply Kept.alloc | apply Kept.drewN | apply Kept.drew | refine Kept.setCell ?_ (.inr GW120.out) _) | exact HK.out)⟩

end Go.Proofs.Ytkglpfdoefdhdaa.Q
namespace Go.Proofs.Ytkglpfdoefdhdaa.Q
open Go.RowKit Go.Proofs.YtkglpfdoefdhdaaW.PrintWords Go.Proofs.YtkglpfdoefdhdaaW.PrintLast Go.Proofs.YtkglpfdoefdhdaaW.PrintMore
attribute [local go_sem] max2_int min2_int max_two min_two max_three min_three max_four min_four
set_option linter.unusedVariables false
set_option linter.unusedSimpArgs false

/-! ### laws_eqIntS: function 37 -/
def laws_eqIntS.l0 : Nat → List Int → List Int → Int → Option (Bool)
 | 0, _, _, _ => none
 | k + 1, x0, x1, x5 => if x5 < (x0.length : Int) then (if 0 ≤ x5 then (if x5 < (x1.length : Int) then (if (rd x0 x5) = (rd x1 x5) then (laws_eqIntS.l0 k x0 x1 (wrap64 (x5 + 1))) else (some false)) else (none)) else (none)) else (some true)
def laws_eqIntS.f (k : Nat) (l0 : List Int) (l1 : List Int) : Option (Bool) := if (l0.length : Int) = (l1.length : Int) then (laws_eqIntS.l0 k l0 l1 0) else (some false)
set_option maxHeartbeats 8000000 in
set_option maxRecDepth 100000 in
theorem laws_eqIntS.calls (k : Nat) (A0 : Option Addr) (c0 : Nat) (l0 : List Int) (A1 : Option Addr) (c1 : Nat) (l1 : List Int) (r : Bool) (w : World) (hr0 : Kd.C (Kd.int .i64) w A0 l0.length l0) (hc0 : l0.length ≤ c0) (hr1 : Kd.C (Kd.int .i64) w A1 l1.length l1) (hc1 : l1.length ≤ c1) (h : laws_eqIntS.f k l0 l1 = some r) :
  Calls Try.prog 37 #[.slice A0 l0.length c0, .slice A1 l1.length c1] w fun e w' => e = .returned (.bool r) ∧ Drawn0 w w' := by
 have HR0 := Aside0.mk hr0
 have HC0 := Aside0.mk hc0
 clear hr0 hc0
 have HR1 := Aside0.mk hr1
 have HC1 := Aside0.mk hc1
 clear hr1 hc1
 have H : (if (l0.length : Int) = (l1.length : Int) then (laws_eqIntS.l0 k l0 l1 0) else (some false)) = some r := h
 clear h
 by_cases c3 : (l0.length : Int) = (l1.length : Int)
 ·rw [if_pos c3] at H
  have c3b0 : ((l0.length : Int) == (l1.length : Int)) = true := beq_iff_eq.mpr c3
  have c3b1 : ((l0.length : Int) != (l1.length : Int)) = false := bne_eq_false_iff_eq.mpr c3
  have c3b2 : (l0.length == l1.length) = true := by first | simpa using c3 | (simp at c3 ⊢; omega)
  clear c3
  have H' := Aside0.mk H
  clear H
  go_enter Try.func37, Try.ntmps37
  go_wp2
  repeat (go_quiet (fail); try go_wp2)
  go_loopg [5] k (fun kq v5 w' => ∃ (x5_1 : Int), v5 = .int .i64 x5_1 ∧ Aside0 (laws_eqIntS.l0 kq l0 l1 x5_1 = some r) ∧ Aside0 (kq ≤ k) ∧ Drawn0 w w')
  case atStart => exact ⟨(0), (by first | rfl | (simp; done) | (simp [*]; done)), H', ⟨Nat.le_refl _⟩, by repeat (first | exact Drawn0.refl _ | apply Drawn0.step)⟩
  case round =>
   clear H'
   try clear c1
   try clear p2
   try clear c3
   try clear c3b0
   try clear c3b1
   try clear c3b2
   obtain ⟨x5_1, rfl, HA, HK1, ⟨m1, rfl⟩⟩ := hrel
   cases gk with
   | zero => exact absurd HA.out (by simp [laws_eqIntS.l0])
   | succ k1 =>
    have H := HA.out
    clear HA
    simp only [laws_eqIntS.l0] at H
    by_cases c4 : x5_1 < (l0.length : Int)
    ·rw [if_pos c4] at H
     have c4b0 : decide (x5_1 < (l0.length : Int)) = true := decide_eq_true c4
     clear c4
     by_cases c5 : 0 ≤ x5_1
     ·rw [if_pos c5] at H
      have c5b0 : decide (0 ≤ x5_1) = true := decide_eq_true c5
      clear c5
      by_cases c6 : x5_1 < (l1.length : Int)
      ·rw [if_pos c6] at H
       have c6b0 : decide (x5_1 < (l1.length : Int)) = true := decide_eq_true c6
       clear c6
       by_cases c7 : (rd l0 x5_1) = (rd l1 x5_1)
       ·rw [if_pos c7] at H
        have c7b0 : ((rd l0 x5_1) == (rd l1 x5_1)) = true := beq_iff_eq.mpr c7
        have c7b1 : ((rd l0 x5_1) != (rd l1 x5_1)) = false := bne_eq_false_iff_eq.mpr c7
        clear c7
        have H' := Aside0.mk H
        clear H
        have p114 : 0 ≤ (x5_1 : Int) := of_decide_eq_true (by first | (with_reducible assumption) | assumption)
        have q114 : x5_1 < (l0.length : Int) := of_decide_eq_true (by first | (with_reducible assumption) | assumption)
        obtain ⟨ad114, e114, hx114_0⟩ := Kd.at_int HR0.out x5_1 p114 q114
        cases e114
        replace p114 := eq_true p114
        replace q114 := eq_true q114
        have p115 : 0 ≤ (x5_1 : Int) := of_decide_eq_true (by first | (with_reducible assumption) | assumption)
        have q115 : x5_1 < (l1.length : Int) := of_decide_eq_true (by first | (with_reducible assumption) | assumption)
        obtain ⟨ad115, e115, hx115_0⟩ := Kd.at_int HR1.out x5_1 p115 q115
        cases e115
        replace p115 := eq_true p115
        replace q115 := eq_true q115
        go_wp2
        repeat (go_quiet (fail); try go_wp2)
        go_roundg k1
        case measure => have := HK1.out; omega
        case rel => exact ⟨(wrap64 (x5_1 + 1)), (by first | rfl | (simp; done) | (simp [*]; done)), H', ⟨by have := HK1.out; omega⟩, by repeat (first | exact Drawn0.refl _ | apply Drawn0.step)⟩
       ·rw [if_neg c7] at H
        have c7b0 : ((rd l0 x5_1) == (rd l1 x5_1)) = false := beq_eq_false_iff_ne.mpr c7
        have c7b1 : ((rd l0 x5_1) != (rd l1 x5_1)) = true := bne_iff_ne.mpr c7
        obtain rfl := Option.some.inj H
        have p114 : 0 ≤ (x5_1 : Int) := of_decide_eq_true (by first | (with_reducible assumption) | assumption)
        have q114 : x5_1 < (l0.length : Int) := of_decide_eq_true (by first | (with_reducible assumption) | assumption)
        obtain ⟨ad114, e114, hx114_0⟩ := Kd.at_int HR0.out x5_1 p114 q114
        cases e114
        replace p114 := eq_true p114
        replace q114 := eq_true q114
        have p115 : 0 ≤ (x5_1 : Int) := of_decide_eq_true (by first | (with_reducible assumption) | assumption)
        have q115 : x5_1 < (l1.length : Int) := of_decide_eq_true (by first | (with_reducible assumption) | assumption)
        obtain ⟨ad115, e115, hx115_0⟩ := Kd.at_int HR1.out x5_1 p115 q115
        cases e115
        replace p115 := eq_true p115
        replace q115 := eq_true q115
        go_wp2
        repeat (go_quiet (fail); try go_wp2)
        go_ret
        exact ⟨by first | rfl | (simp; done) | (simp [*]; done), by repeat (first | exact Drawn0.refl _ | apply Drawn0.step)⟩
      ·rw [if_neg c6] at H
       exact absurd H (by simp)
     ·rw [if_neg c5] at H
      exact absurd H (by simp)
    ·rw [if_neg c4] at H
     have c4b0 : decide (x5_1 < (l0.length : Int)) = false := decide_eq_false c4
     clear c4
     obtain rfl := Option.some.inj H
     go_wp2
     repeat (go_quiet (fail); try go_wp2)
     go_ret
     exact ⟨by first | rfl | (simp; done) | (simp [*]; done), by repeat (first | exact Drawn0.refl _ | apply Drawn0.step)⟩
 ·rw [if_neg c3] at H
  have c3b0 : ((l0.length : Int) == (l1.length : Int)) = false := beq_eq_false_iff_ne.mpr c3
  have c3b1 : ((l0.length : Int) != (l1.length : Int)) = true := bne_iff_ne.mpr c3
  have c3b2 : (l0.length == l1.length) = false := by first | simpa using c3 | (simp at c3 ⊢; omega)
  obtain rfl := Option.some.inj H
  go_enter Try.func37, Try.ntmps37
  go_wp2
  repeat (go_quiet (fail); try go_wp2)
  go_ret
  exact ⟨by first | rfl | (simp; done) | (simp [*]; done), by repeat (first | exact Drawn0.refl _ | apply Drawn0.step)⟩

end Go.Proofs.Ytkglpfdoefdhdaa.Q
namespace Go.Proofs.Ytkglpfdoefdhdaa.Q
open Go.RowKit Go.Proofs.YtkglpfdoefdhdaaW.PrintWords Go.Proofs.YtkglpfdoefdhdaaW.PrintLast Go.Proofs.YtkglpfdoefdhdaaW.PrintMore
attribute [local go_sem] max2_int min2_int max_two min_two max_three min_three max_four min_four
set_option linter.unusedVariables false
set_option linter.unusedSimpArgs false

end Go.Proofs.Ytkglpfdoefdhdaa.Q
namespace Go.Proofs.Ytkglpfdoefdhdaa.Q
open Go.RowKit Go.Proofs.YtkglpfdoefdhdaaW.PrintWords Go.Proofs.YtkglpfdoefdhdaaW.PrintLast Go.Proofs.YtkglpfdoefdhdaaW.PrintMore
attribute [local go_sem] max2_int min2_int max_two min_two max_three min_three max_four min_four
set_option linter.unusedVariables false
set_option linter.unusedSimpArgs false

end Go.Proofs.Ytkglpfdoefdhdaa.Q
namespace Go.Proofs.Ytkglpfdoefdhdaa.Q
open Go.RowKit Go.Proofs.YtkglpfdoefdhdaaW.PrintWords Go.Proofs.YtkglpfdoefdhdaaW.PrintLast Go.Proofs.YtkglpfdoefdhdaaW.PrintMore
attribute [local go_sem] max2_int min2_int max_two min_two max_three min_three max_four min_four
set_option linter.unusedVariables false
set_option linter.unusedSimpArgs false

end Go.Proofs.Ytkglpfdoefdhdaa.Q
namespace Go.Proofs.Ytkglpfdoefdhdaa.Q
open Go.RowKit Go.Proofs.YtkglpfdoefdhdaaW.PrintWords Go.Proofs.YtkglpfdoefdhdaaW.PrintLast Go.Proofs.YtkglpfdoefdhdaaW.PrintMore
attribute [local go_sem] max2_int min2_int max_two min_two max_three min_three max_four min_four
set_option linter.unusedVariables false
set_option linter.unusedSimpArgs false

end Go.Proofs.Ytkglpfdoefdhdaa.Q
namespace Go.Proofs.Ytkglpfdoefdhdaa.Q
open Go.RowKit Go.Proofs.YtkglpfdoefdhdaaW.PrintWords Go.Proofs.YtkglpfdoefdhdaaW.PrintLast Go.Proofs.YtkglpfdoefdhdaaW.PrintMore
attribute [local go_sem] max2_int min2_int max_two min_two max_three min_three max_four min_four
set_option linter.unusedVariables false
set_option linter.unusedSimpArgs false

/-! ### impl_in: function 82 -/
def impl_in.f (a0 : Int) (a1 : Int) (a2 : Int) : Option (Bool) := if a0 ≥ a1 then (some (decide (a0 ≤ a2))) else (some false)
set_option maxHeartbeats 8000000 in
set_option maxRecDepth 100000 in
theorem impl_in.calls (a0 : Int) (a1 : Int) (a2 : Int) (r : Bool) (w : World) (h : impl_in.f a0 a1 a2 = some r) :
  Calls Try.prog 82 #[.int .i64 a0, .int .i64 a1, .int .i64 a2] w fun e w' => e = .returned (.bool r) ∧ Drawn0 w w' := by
 have H : (if a0 ≥ a1 then (some (decide (a0 ≤ a2))) else (some false)) = some r := h
 clear h
 by_cases c4 : a0 ≥ a1
 ·rw [if_pos c4] at H
  have c4b0 : decide (a1 ≤ a0) = true := decide_eq_true c4
  clear c4
  obtain rfl := Option.some.inj H
  go_enter Try.func82, Try.ntmps82
  go_wp2
  go_ret
  exact ⟨by first | rfl | (simp; done) | (simp [*]; done), by repeat (first | exact Drawn0.refl _ | apply Drawn0.step)⟩
 ·rw [if_neg c4] at H
  have c4b0 : decide (a1 ≤ a0) = false := decide_eq_false c4
  clear c4
  obtain rfl := Option.some.inj H
  go_enter Try.func82, Try.ntmps82
  go_wp2
  go_ret
  exact ⟨by first | rfl | (simp; done) | (simp [*]; done), by repeat (first | exact Drawn0.refl _ | apply Drawn0.step)⟩

end Go.Proofs.Ytkglpfdoefdhdaa.Q
namespace Go.Proofs.Ytkglpfdoefdhdaa.Q
open Go.RowKit Go.Proofs.YtkglpfdoefdhdaaW.PrintWords Go.Proofs.YtkglpfdoefdhdaaW.PrintLast Go.Proofs.YtkglpfdoefdhdaaW.PrintMore
attribute [local go_sem] max2_int min2_int max_two min_two max_three min_three max_four min_four
set_option linter.unusedVariables false
set_option linter.unusedSimpArgs false

end Go.Proofs.Ytkglpfdoefdhdaa.Q
namespace Go.Proofs.Ytkglpfdoefdhdaa.Q
open Go.RowKit Go.Proofs.YtkglpfdoefdhdaaW.PrintWords Go.Proofs.YtkglpfdoefdhdaaW.PrintLast Go.Proofs.YtkglpfdoefdhdaaW.PrintMore
attribute [local go_sem] max2_int min2_int max_two min_two max_three min_three max_four min_four
set_option linter.unusedVariables false
set_option linter.unusedSimpArgs false

/-! ### spec_l1In: function 91 -/
def spec_l1In.f (a0 : Int) (a1 : Int) (a2 : Int) : Option (Bool) := if a0 ≥ a1 then (some (decide (a0 ≤ a2))) else (some false)
set_option maxHeartbeats 8000000 in
set_option maxRecDepth 100000 in
theorem spec_l1In.calls (a0 : Int) (a1 : Int) (a2 : Int) (r : Bool) (w : World) (h : spec_l1In.f a0 a1 a2 = some r) :
  Calls Try.prog 91 #[.int .i64 a0, .int .i64 a1, .int .i64 a2] w fun e w' => e = .returned (.bool r) ∧ Drawn0 w w' := by
 have H : (if a0 ≥ a1 then (some (decide (a0 ≤ a2))) else (some false)) = some r := h
 clear h
 by_cases c4 : a0 ≥ a1
 ·rw [if_pos c4] at H
  have c4b0 : decide (a1 ≤ a0) = true := decide_eq_true c4
  clear c4
  obtain rfl := Option.some.inj H
  go_enter Try.func91, Try.ntmps91
  go_wp2
  go_ret
  exact ⟨by first | rfl | (simp; done) | (simp [*]; done), by repeat (first | exact Drawn0.refl _ | apply Drawn0.step)⟩
 ·rw [if_neg c4] at H
  have c4b0 : decide (a1 ≤ a0) = false := decide_eq_false c4
  clear c4
  obtain rfl := Option.some.inj H
  go_enter Try.func91, Try.ntmps91
  go_wp2
  go_ret
  exact ⟨by first | rfl | (simp; done) | (simp [*]; done), by repeat (first | exact Drawn0.refl _ | apply Drawn0.step)⟩

end Go.Proofs.Ytkglpfdoefdhdaa.Q
namespace Go.Proofs.Ytkglpfdoefdhdaa.Q
open Go.RowKit Go.Proofs.YtkglpfdoefdhdaaW.PrintWords Go.Proofs.YtkglpfdoefdhdaaW.PrintLast Go.Proofs.YtkglpfdoefdhdaaW.PrintMore
attribute [local go_sem] max2_int min2_int max_two min_two max_three min_three max_four min_four
set_option linter.unusedVariables false
set_option linter.unusedSimpArgs false

end Go.Proofs.Ytkglpfdoefdhdaa.Q
namespace Go.Proofs.Ytkglpfdoefdhdaa.Q
open Go.RowKit Go.Proofs.YtkglpfdoefdhdaaW.PrintWords Go.Proofs.YtkglpfdoefdhdaaW.PrintLast Go.Proofs.YtkglpfdoefdhdaaW.PrintMore
attribute [local go_sem] max2_int min2_int max_two min_two max_three min_three max_four min_four
set_option linter.unusedVariables false
set_option linter.unusedSimpArgs false

end Go.Proofs.Ytkglpfdoefdhdaa.Q
namespace Go.Proofs.Ytkglpfdoefdhdaa.Q
open Go.RowKit Go.Proofs.YtkglpfdoefdhdaaW.PrintWords Go.Proofs.YtkglpfdoefdhdaaW.PrintLast Go.Proofs.YtkglpfdoefdhdaaW.PrintMore
attribute [local go_sem] max2_int min2_int max_two min_two max_three min_three max_four min_four
set_option linter.unusedVariables false
set_option linter.unusedSimpArgs false

/-! ### impl_Flaw_101: function 101 -/
def impl_Flaw_101.f (l0 : List (S35)) : Option ((List (S35))) := (some (([] : List (S35)) : List (S35))).bind fun y732 => (if y732.length + l0.length < 4398046511104 then (some (y732 ++ l0)) else (none))
set_option maxHeartbeats 8000000 in
set_option maxRecDepth 100000 in
theorem impl_Flaw_101.calls_some (ad0_ : Addr) (c0 : Nat) (l0 : List (S35)) (r : List (S35)) (w : World) (hr0 : Kd.C k35 w (some ad0_) l0.length l0) (hc0 : l0.length ≤ c0) (h : impl_Flaw_101.f l0 = some r) :
  Calls Try.prog 101 #[.slice (some ad0_) l0.length c0] w fun e w' => ∃ v0_ : Value, e = .returned (v0_) ∧ Kd.R k35 35 w' w.heap.size (fun _ => True) v0_ r ∧ Below w.heap.size w w' := by
 have he_ := fun w_ => Go.Lib.run_eql_slice_some_nil (P := Try.prog) w_ ad0_ l0.length c0 Try.underlying27
 have HR0 := Aside0.mk hr0
 have HC0 := Aside0.mk hc0
 clear hr0 hc0
 have HB := Aside0.mk (Below.refl w.heap.size w)
 have H : ((some (([] : List (S35)) : List (S35))).bind fun y732 => (if y732.length + l0.length < 4398046511104 then (some (y732 ++ l0)) else (none))) = some r := h
 clear h
 obtain ⟨y732, hy732⟩ : ∃ y_ : List (S35), y_ = (([] : List (S35))) := ⟨_, rfl⟩
 replace H : (if y732.length + l0.length < 4398046511104 then (some (y732 ++ l0)) else (none)) = some r := by first | (rw [hy732]; with_reducible exact H) | (have H2_ := (Option.bind_some _ _).symm.trans H; rw [hy732]; with_reducible exact H2_) | (have H2_ := (Option.bind_some _ _).symm.trans H; with_reducible exact H2_) | with_reducible exact H | (rw [hy732]; exact H) | exact H
 have Ny732 := Aside0.mk hy732
 clear hy732
 by_cases c2 : y732.length + l0.length < 4398046511104
 ·rw [if_pos c2] at H
  have LMc2 := Aside0.mk c2
  clear c2
  obtain ⟨y735, hy735⟩ : ∃ y_ : List (S35), y_ = (y732 ++ l0) := ⟨_, rfl⟩
  replace H : (some y735) = some r := by first | (rw [hy735]; with_reducible exact H) | (have H2_ := (Option.bind_some _ _).symm.trans H; rw [hy735]; with_reducible exact H2_) | (have H2_ := (Option.bind_some _ _).symm.trans H; with_reducible exact H2_) | with_reducible exact H | (rw [hy735]; exact H) | exact H
  have Ny735 := Aside0.mk hy735
  clear hy735
  obtain rfl := Option.some.inj H
  go_enter Try.func101, Try.ntmps101
  go_wp2_with (first | ((with_reducible refine gate_dst (N := 5) rfl ?_); refine Kd.R_lit k35 _ 35 ?hg (N := 5) ?hd (xs := ([] : List (S35))) (inner := []) (ok := fun _ => True) (okp := fun _ => True) ?hr ?hp (fun _ hk => hk) trivial (Below.refl _ _) (Nat.le_refl _) (by simp) ?_; (case hd => rfl); (case hg => rfl); (case hr => first | (go_simp; done) | (go_simp; rfl)); (case hp => exact (Reps.none _ _)); intro v733 w3 ho4 hb hg_ hnew_; clear hg_ hnew_; (first | rw [← Ny732.out] at ho4 | (simp only [Int.reduceToNat] at ho4; rw [← Ny732.out] at ho4)); have n0_ := Aside0.mk (Kd.R_lower ho4 (below_size (by repeat (first | (with_reducible first | exact HB.out | apply below_alloc | apply pw_below_drewN | apply below_drew1) | exact HB.out)))); have n1_ := Aside0.mk (below_step (by repeat (first | (with_reducible first | exact HB.out | apply below_alloc | apply pw_below_drewN | apply below_drew1) | exact HB.out)) hb); clear HB; have HO734 := n0_; have HB := n1_; clear n0_ n1_; clear hb ho4) | ((with_reducible refine gate_builtin (b := .append) (xs := #[.tmp 5, .tmp 6]) rfl ?_); at_builtin; refine Kd.R_append_rows k35 (w0 := w) w.heap.size rfl (.tmp 5) (.tmp 6) 27 35 (.agg #[(.int .i64 0), (.int .i64 0), (.int .i64 0), (.int .i64 0)]) 32 rfl Try.underlying27 info35 rfl (by decide) (by omega) v733 y732 l0 _ _ _ (fun _ => True) (fun _ => False) rfl rfl ?aO ?aR (fun _ _ h => h) (fun _ h => h.elim) ?aF ?aB ?aS ?aL ?_; (case aR => repeat (first | exact (Kd.C_below HR0.out HB.out) | (with_reducible refine Kd.C_alloc ?_ _) | (with_reducible refine Kd.C_drewN ?_ _) | (with_reducible refine Kd.C_drew ?_))); (case aB => exact (by repeat (first | (with_reducible first | exact HB.out | apply below_alloc | apply pw_below_drewN | apply below_drew1) | exact HB.out))); (case aF => exact (fun _ _ => trivial)); (case aO => exact (by (with_reducible repeat (first | apply Kd.R_alloc | apply Kd.R_drewN | apply Kd.R_drew)); exact HO734.out)); (case aS => exact (below_size (by repeat (first | (with_reducible first | exact HB.out | apply below_alloc | apply pw_below_drewN | apply below_drew1) | exact HB.out)))); (case aL => have := LMc2.out; omega); intro v736 w5 ho hb hg hat; rw [← Ny735.out] at ho; have n0_ := Aside0.mk (hb); have n1_ := Aside0.mk (ho); clear HB; clear HO734; have HB := n0_; have HO737 := n1_; clear n0_ n1_; clear ho hb hg hat))
  go_ret
  exact ⟨_, by first | rfl | (simp [errW_none, errW_some] <;> rfl) | (simp [*, errW_none, errW_some] <;> rfl) | (simp [wrap64]; done), by (with_reducible repeat (first | apply Kd.R_alloc | apply Kd.R_drewN | apply Kd.R_drew)); exact HO737.out, by repeat (first | (with_reducible first | exact HB.out | apply below_alloc | apply pw_below_drewN | apply below_drew1) | exact HB.out)⟩
 ·rw [if_neg c2] at H
  exact absurd H (by simp)
set_option maxHeartbeats 8000000 in
set_option maxRecDepth 100000 in
theorem impl_Flaw_101.calls (A0 : Option Addr) (c0 : Nat) (l0 : List (S35)) (r : List (S35)) (w : World) (hr0 : Kd.C k35 w A0 l0.length l0) (hc0 : l0.length ≤ c0) (h : impl_Flaw_101.f l0 = some r) :
  Calls Try.prog 101 #[.slice A0 l0.length c0] w fun e w' => ∃ v0_ : Value, e = .returned (v0_) ∧ Kd.R k35 35 w' w.heap.size (fun _ => True) v0_ r ∧ Below w.heap.size w w' := by
 cases A0 with
 | some ad => first | exact impl_Flaw_101.calls_some ad c0 l0 r w hr0 hc0 h | exact impl_Flaw_101.calls_some P0_ ad c0 l0 r w hr0 hc0 h | exact impl_Flaw_101.calls_some P0_ ad c0 l0 r w hs0 h | (apply impl_Flaw_101.calls_some <;> assumption)
 | none =>
  have hl : l0.length = 0 := by
   rcases Nat.eq_zero_or_pos l0.length with h0 | h0
   ·exact h0
   ·obtain ⟨ad, he, _⟩ := (show Kd.C k35 w none l0.length l0 from by first | exact hr0 | exact hr0 w (fun _ _ _ => rfl) | exact (Kd.V_reads' hs0).2.2).2.2 h0
    cases he
  obtain rfl : l0 = [] := List.eq_nil_of_length_eq_zero hl
  obtain rfl : ([] : List _) = r := by have h' := h; simp [impl_Flaw_101.f] at h'; first | exact h' | exact h'.symm
  clear h hl hr0 hc0
  have he_ := fun w_ => Go.Lib.run_eql_slice_nil_nil (P := Try.prog) w_ 0 c0 Try.underlying27
  go_enter Try.func101, Try.ntmps101
  go_wp2
  go_ret
  exact ⟨_, rfl, (by first | exact Kd.R_nil _ _ _ _ _ | exact Kd.S_nil _ _ _ _ _ | exact Kd.N_nil _ _ _ _ _ | exact Kd.V_nil _ _ _ _ _), Below.refl _ _⟩

end Go.Proofs.Ytkglpfdoefdhdaa.Q
namespace Go.Proofs.Ytkglpfdoefdhdaa.Q
open Go.RowKit Go.Proofs.YtkglpfdoefdhdaaW.PrintWords Go.Proofs.YtkglpfdoefdhdaaW.PrintLast Go.Proofs.YtkglpfdoefdhdaaW.PrintMore
attribute [local go_sem] max2_int min2_int max_two min_two max_three min_three max_four min_four
set_option linter.unusedVariables false
set_option linter.unusedSimpArgs false

/-! ### impl_Hole_119: function 119 -/
def impl_Hole_119.f (l0 : List (S76)) : Option ((List (S76))) := (some (([] : List (S76)) : List (S76))).bind fun y672 => (if y672.length + l0.length < 4398046511104 then (some (y672 ++ l0)) else (none))
set_option maxHeartbeats 8000000 in
set_option maxRecDepth 100000 in
theorem impl_Hole_119.calls_some (ad0_ : Addr) (c0 : Nat) (l0 : List (S76)) (r : List (S76)) (w : World) (hr0 : Kd.C k76 w (some ad0_) l0.length l0) (hc0 : l0.length ≤ c0) (h : impl_Hole_119.f l0 = some r) :
  Calls Try.prog 119 #[.slice (some ad0_) l0.length c0] w fun e w' => ∃ v0_ : Value, e = .returned (v0_) ∧ Kd.R k76 76 w' w.heap.size (fun _ => True) v0_ r ∧ Below w.heap.size w w' := by
 have he_ := fun w_ => Go.Lib.run_eql_slice_some_nil (P := Try.prog) w_ ad0_ l0.length c0 Try.underlying65
 have HR0 := Aside0.mk hr0
 have HC0 := Aside0.mk hc0
 clear hr0 hc0
 have HB := Aside0.mk (Below.refl w.heap.size w)
 have H : ((some (([] : List (S76)) : List (S76))).bind fun y672 => (if y672.length + l0.length < 4398046511104 then (some (y672 ++ l0)) else (none))) = some r := h
 clear h
 obtain ⟨y672, hy672⟩ : ∃ y_ : List (S76), y_ = (([] : List (S76))) := ⟨_, rfl⟩
 replace H : (if y672.length + l0.length < 4398046511104 then (some (y672 ++ l0)) else (none)) = some r := by first | (rw [hy672]; with_reducible exact H) | (have H2_ := (Option.bind_some _ _).symm.trans H; rw [hy672]; with_reducible exact H2_) | (have H2_ := (Option.bind_some _ _).symm.trans H; with_reducible exact H2_) | with_reducible exact H | (rw [hy672]; exact H) | exact H
 have Ny672 := Aside0.mk hy672
 clear hy672
 by_cases c2 : y672.length + l0.length < 4398046511104
 ·rw [if_pos c2] at H
  have LMc2 := Aside0.mk c2
  clear c2
  obtain ⟨y675, hy675⟩ : ∃ y_ : List (S76), y_ = (y672 ++ l0) := ⟨_, rfl⟩
  replace H : (some y675) = some r := by first | (rw [hy675]; with_reducible exact H) | (have H2_ := (Option.bind_some _ _).symm.trans H; rw [hy675]; with_reducible exact H2_) | (have H2_ := (Option.bind_some _ _).symm.trans H; with_reducible exact H2_) | with_reducible exact H | (rw [hy675]; exact H) | exact H
  have Ny675 := Aside0.mk hy675
  clear hy675
  obtain rfl := Option.some.inj H
  go_enter Try.func119, Try.ntmps119
  go_wp2_with (first | ((with_reducible refine gate_dst (N := 5) rfl ?_); refine Kd.R_lit k76 _ 76 ?hg (N := 5) ?hd (xs := ([] : List (S76))) (inner := []) (ok := fun _ => True) (okp := fun _ => True) ?hr ?hp (fun _ hk => hk) trivial (Below.refl _ _) (Nat.le_refl _) (by simp) ?_; (case hd => rfl); (case hg => rfl); (case hr => first | (go_simp; done) | (go_simp; rfl)); (case hp => exact (Reps.none _ _)); intro v673 w3 ho4 hb hg_ hnew_; clear hg_ hnew_; (first | rw [← Ny672.out] at ho4 | (simp only [Int.reduceToNat] at ho4; rw [← Ny672.out] at ho4)); have n0_ := Aside0.mk (Kd.R_lower ho4 (below_size (by repeat (first | (with_reducible first | exact HB.out | apply below_alloc | apply pw_below_drewN | apply below_drew1) | exact HB.out)))); have n1_ := Aside0.mk (below_step (by repeat (first | (with_reducible first | exact HB.out | apply below_alloc | apply pw_below_drewN | apply below_drew1) | exact HB.out)) hb); clear HB; have HO674 := n0_; have HB := n1_; clear n0_ n1_; clear hb ho4) | ((with_reducible refine gate_builtin (b := .append) (xs := #[.tmp 5, .tmp 6]) rfl ?_); at_builtin; refine Kd.R_append_rows k76 (w0 := w) w.heap.size rfl (.tmp 5) (.tmp 6) 65 76 (.agg #[(.int .i64 0), (.int .i64 0), (.int .i64 0), (.int .i64 0)]) 32 rfl Try.underlying65 info76 rfl (by decide) (by omega) v673 y672 l0 _ _ _ (fun _ => True) (fun _ => False) rfl rfl ?aO ?aR (fun _ _ h => h) (fun _ h => h.elim) ?aF ?aB ?aS ?aL ?_; (case aR => repeat (first | exact (Kd.C_below HR0.out HB.out) | (with_reducible refine Kd.C_alloc ?_ _) | (with_reducible refine Kd.C_drewN ?_ _) | (with_reducible refine Kd.C_drew ?_))); (case aB => exact (by repeat (first | (with_reducible first | exact HB.out | apply below_alloc | apply pw_below_drewN | apply below_drew1) | exact HB.out))); (case aF => exact (fun _ _ => trivial)); (case aO => exact (by (with_reducible repeat (first | apply Kd.R_alloc | apply Kd.R_drewN | apply Kd.R_drew)); exact HO674.out)); (case aS => exact (below_size (by repeat (first | (with_reducible first | exact HB.out | apply below_alloc | apply pw_below_drewN | apply below_drew1) | exact HB.out)))); (case aL => have := LMc2.out; omega); intro v676 w5 ho hb hg hat; rw [← Ny675.out] at ho; have n0_ := Aside0.mk (hb); have n1_ := Aside0.mk (ho); clear HB; clear HO674; have HB := n0_; have HO677 := n1_; clear n0_ n1_; clear ho hb hg hat))
  go_ret
  exact ⟨_, by first | rfl | (simp [errW_none, errW_some] <;> rfl) | (simp [*, errW_none, errW_some] <;> rfl) | (simp [wrap64]; done), by (with_reducible repeat (first | apply Kd.R_alloc | apply Kd.R_drewN | apply Kd.R_drew)); exact HO677.out, by repeat (first | (with_reducible first | exact HB.out | apply below_alloc | apply pw_below_drewN | apply below_drew1) | exact HB.out)⟩
 ·rw [if_neg c2] at H
  exact absurd H (by simp)
end Go.Proofs.Ytkglpfdoefdhdaa.Q
namespace Go.Proofs.Ytkglpfdoefdhdaa.Q
open Go.RowKit Go.Proofs.YtkglpfdoefdhdaaW.PrintWords Go.Proofs.YtkglpfdoefdhdaaW.PrintLast Go.Proofs.YtkglpfdoefdhdaaW.PrintMore
attribute [local go_sem] max2_int min2_int max_two min_two max_three min_three max_four min_four
set_option linter.unusedVariables false
set_option linter.unusedSimpArgs false

end Go.Proofs.Ytkglpfdoefdhdaa.Q
namespace Go.Proofs.Ytkglpfdoefdhdaa.Q
open Go.RowKit Go.Proofs.YtkglpfdoefdhdaaW.PrintWords Go.Proofs.YtkglpfdoefdhdaaW.PrintLast Go.Proofs.YtkglpfdoefdhdaaW.PrintMore
attribute [local go_sem] max2_int min2_int max_two min_two max_three min_three max_four min_four
set_option linter.unusedVariables false
set_option linter.unusedSimpArgs false

end Go.Proofs.Ytkglpfdoefdhdaa.Q
namespace Go.Proofs.Ytkglpfdoefdhdaa.Q
open Go.RowKit Go.Proofs.YtkglpfdoefdhdaaW.PrintWords Go.Proofs.YtkglpfdoefdhdaaW.PrintLast Go.Proofs.YtkglpfdoefdhdaaW.PrintMore
attribute [local go_sem] max2_int min2_int max_two min_two max_three min_three max_four min_four
set_option linter.unusedVariables false
set_option linter.unusedSimpArgs false

end Go.Proofs.Ytkglpfdoefdhdaa.Q
namespace Go.Proofs.Ytkglpfdoefdhdaa.Q
open Go.RowKit Go.Proofs.YtkglpfdoefdhdaaW.PrintWords Go.Proofs.YtkglpfdoefdhdaaW.PrintLast Go.Proofs.YtkglpfdoefdhdaaW.PrintMore
attribute [local go_sem] max2_int min2_int max_two min_two max_three min_three max_four min_four
set_option linter.unusedVariables false
set_option linter.unusedSimpArgs false

/-! ### cmp_isNaN_int: function 140 -/
def cmp_isNaN_int.f (a0 : Int) : Option (Bool) := some (a0 != a0)
set_option maxHeartbeats 8000000 in
set_option maxRecDepth 100000 in
theorem cmp_isNaN_int.calls (a0 : Int) (r : Bool) (w : World) (h : cmp_isNaN_int.f a0 = some r) :
  Calls Try.prog 140 #[.int .i64 a0] w fun e w' => e = .returned (.bool r) ∧ Drawn0 w w' := by
 have H : (some (a0 != a0)) = some r := h
 clear h
 obtain rfl := Option.some.inj H
 go_enter Try.func140, Try.ntmps140
 go_wp2
 go_ret
 exact ⟨by first | rfl | (simp; done) | (simp [*]; done), by repeat (first | exact Drawn0.refl _ | apply Drawn0.step)⟩

end Go.Proofs.Ytkglpfdoefdhdaa.Q
namespace Go.Proofs.Ytkglpfdoefdhdaa.Q
open Go.RowKit Go.Proofs.YtkglpfdoefdhdaaW.PrintWords Go.Proofs.YtkglpfdoefdhdaaW.PrintLast Go.Proofs.YtkglpfdoefdhdaaW.PrintMore
attribute [local go_sem] max2_int min2_int max_two min_two max_three min_three max_four min_four
set_option linter.unusedVariables false
set_option linter.unusedSimpArgs false

end Go.Proofs.Ytkglpfdoefdhdaa.Q
namespace Go.Proofs.Ytkglpfdoefdhdaa.Q
open Go.RowKit Go.Proofs.YtkglpfdoefdhdaaW.PrintWords Go.Proofs.YtkglpfdoefdhdaaW.PrintLast Go.Proofs.YtkglpfdoefdhdaaW.PrintMore
attribute [local go_sem] max2_int min2_int max_two min_two max_three min_three max_four min_four
set_option linter.unusedVariables false
set_option linter.unusedSimpArgs false

end Go.Proofs.Ytkglpfdoefdhdaa.Q
namespace Go.Proofs.Ytkglpfdoefdhdaa.Q
open Go.RowKit Go.Proofs.YtkglpfdoefdhdaaW.PrintWords Go.Proofs.YtkglpfdoefdhdaaW.PrintLast Go.Proofs.YtkglpfdoefdhdaaW.PrintMore
attribute [local go_sem] max2_int min2_int max_two min_two max_three min_three max_four min_four
set_option linter.unusedVariables false
set_option linter.unusedSimpArgs false

end Go.Proofs.Ytkglpfdoefdhdaa.Q
namespace Go.Proofs.Ytkglpfdoefdhdaa.Q
open Go.RowKit Go.Proofs.YtkglpfdoefdhdaaW.PrintWords Go.Proofs.YtkglpfdoefdhdaaW.PrintLast Go.Proofs.YtkglpfdoefdhdaaW.PrintMore
attribute [local go_sem] max2_int min2_int max_two min_two max_three min_three max_four min_four
set_option linter.unusedVariables false
set_option linter.unusedSimpArgs false

/-! ### cmp_Or_int: function 147 -/
def cmp_Or_int.l0 : Nat → Int → List Int → Int → Int → Option (Int)
 | 0, _, _, _, _ => none
 | k + 1, x3, x6, x7, x8 => if x8 < x7 then (if 0 ≤ x8 then (if x8 < (x6.length : Int) then (if (rd x6 x8) = x3 then (cmp_Or_int.l0 k x3 x6 x7 (wrap64 (x8 + 1))) else (some (rd x6 x8))) else (none)) else (none)) else (some x3)
def cmp_Or_int.f (k : Nat) (l0 : List Int) : Option (Int) := cmp_Or_int.l0 k 0 l0 (l0.length : Int) 0
theorem cmp_Or_int.mono_l : ∀ k, (∀ y0 y1 y2 y3, LeO (cmp_Or_int.l0 k y0 y1 y2 y3) (cmp_Or_int.l0 (k + 1) y0 y1 y2 y3))
 | 0 => fun _ _ _ _ r h => by simp [cmp_Or_int.l0] at h
 | k + 1 => by
  have ih0 := cmp_Or_int.mono_l k
  ·intro y0 y1 y2 y3
   unfold cmp_Or_int.l0
   repeat' first
   | (with_reducible exact ih0 _ _ _ _)
   | (with_reducible exact LeO.refl _)
   | (with_reducible exact LeO.none _)
   | (with_reducible refine LeO.ite ?_ ?_)
   | (with_reducible refine LeO.bind ?_ (fun _ => ?_))
   | exact ih0 _ _ _ _
   | exact LeO.none _
   | refine LeO.ite ?_ ?_
   | refine LeO.bind ?_ (fun _ => ?_)
theorem cmp_Or_int.mono : ∀ a0 k, LeO (cmp_Or_int.f k a0) (cmp_Or_int.f (k + 1) a0) := by
 intro a0 k
 have ih0 := cmp_Or_int.mono_l k
 unfold cmp_Or_int.f
 repeat' first
   | (with_reducible exact ih0 _ _ _ _)
   | (with_reducible exact LeO.refl _)
   | (with_reducible exact LeO.none _)
   | (with_reducible refine LeO.ite ?_ ?_)
   | (with_reducible refine LeO.bind ?_ (fun _ => ?_))
   | exact ih0 _ _ _ _
   | exact LeO.none _
   | refine LeO.ite ?_ ?_
   | refine LeO.bind ?_ (fun _ => ?_)
set_option maxHeartbeats 8000000 in
set_option maxRecDepth 100000 in
theorem cmp_Or_int.calls (k : Nat) (A0 : Option Addr) (c0 : Nat) (l0 : List Int) (r : Int) (w : World) (hr0 : Kd.C (Kd.int .i64) w A0 l0.length l0) (hc0 : l0.length ≤ c0) (h : cmp_Or_int.f k l0 = some r) :
  Calls Try.prog 147 #[.slice A0 l0.length c0] w fun e w' => e = .returned (.int .i64 r) ∧ Drawn0 w w' := by
 have HR0 := Aside0.mk hr0
 have HC0 := Aside0.mk hc0
 clear hr0 hc0
 have H : (cmp_Or_int.l0 k 0 l0 (l0.length : Int) 0) = some r := h
 clear h
 have H' := Aside0.mk H
 clear H
 go_enter Try.func147, Try.ntmps147
 go_wp2
 go_loopg [8] k (fun kq v8 w' => ∃ (x8_1 : Int), v8 = .int .i64 x8_1 ∧ Aside0 (cmp_Or_int.l0 kq 0 l0 (l0.length : Int) x8_1 = some r) ∧ Aside0 (kq ≤ k) ∧ Drawn0 w w')
 case atStart => exact ⟨(0), (by first | rfl | (simp; done) | (simp [*]; done)), H', ⟨Nat.le_refl _⟩, by repeat (first | exact Drawn0.refl _ | apply Drawn0.step)⟩
 case round =>
  clear H'
  try clear c1
  obtain ⟨x8_1, rfl, HA, HK1, ⟨m1, rfl⟩⟩ := hrel
  cases gk with
  | zero => exact absurd HA.out (by simp [cmp_Or_int.l0])
  | succ k1 =>
   have H := HA.out
   clear HA
   simp only [cmp_Or_int.l0] at H
   by_cases c2 : x8_1 < (l0.length : Int)
   ·rw [if_pos c2] at H
    have c2b0 : decide (x8_1 < (l0.length : Int)) = true := decide_eq_true c2
    clear c2
    by_cases c3 : 0 ≤ x8_1
    ·rw [if_pos c3] at H
     have c3b0 : decide (0 ≤ x8_1) = true := decide_eq_true c3
     clear c3
     by_cases c4 : x8_1 < (l0.length : Int)
     ·rw [if_pos c4] at H
      have c4b0 : decide (x8_1 < (l0.length : Int)) = true := decide_eq_true c4
      clear c4
      by_cases c5 : (rd l0 x8_1) = 0
      ·rw [if_pos c5] at H
       have c5b0 : ((rd l0 x8_1) == 0) = true := beq_iff_eq.mpr c5
       have c5b1 : ((rd l0 x8_1) != 0) = false := bne_eq_false_iff_eq.mpr c5
       clear c5
       have H' := Aside0.mk H
       clear H
       have p196 : 0 ≤ (x8_1 : Int) := of_decide_eq_true (by first | (with_reducible assumption) | assumption)
       have q196 : x8_1 < (l0.length : Int) := of_decide_eq_true (by first | (with_reducible assumption) | assumption)
       obtain ⟨ad196, e196, hx196_0⟩ := Kd.at_int HR0.out x8_1 p196 q196
       cases e196
       replace p196 := eq_true p196
       replace q196 := eq_true q196
       go_wp2
       go_roundg k1
       case measure => have := HK1.out; omega
       case rel => exact ⟨(wrap64 (x8_1 + 1)), (by first | rfl | (simp; done) | (simp [*]; done)), H', ⟨by have := HK1.out; omega⟩, by repeat (first | exact Drawn0.refl _ | apply Drawn0.step)⟩
      ·rw [if_neg c5] at H
       have c5b0 : ((rd l0 x8_1) == 0) = false := beq_eq_false_iff_ne.mpr c5
       have c5b1 : ((rd l0 x8_1) != 0) = true := bne_iff_ne.mpr c5
       obtain rfl := Option.some.inj H
       have p196 : 0 ≤ (x8_1 : Int) := of_decide_eq_true (by first | (with_reducible assumption) | assumption)
       have q196 : x8_1 < (l0.length : Int) := of_decide_eq_true (by first | (with_reducible assumption) | assumption)
       obtain ⟨ad196, e196, hx196_0⟩ := Kd.at_int HR0.out x8_1 p196 q196
       cases e196
       replace p196 := eq_true p196
       replace q196 := eq_true q196
       go_wp2
       go_ret
       exact ⟨by first | rfl | (simp; done) | (simp [*]; done), by repeat (first | exact Drawn0.refl _ | apply Drawn0.step)⟩
     ·rw [if_neg c4] at H
      exact absurd H (by simp)
    ·rw [if_neg c3] at H
     exact absurd H (by simp)
   ·rw [if_neg c2] at H
    have c2b0 : decide (x8_1 < (l0.length : Int)) = false := decide_eq_false c2
    clear c2
    obtain rfl := Option.some.inj H
    go_wp2
    go_ret
    exact ⟨by first | rfl | (simp; done) | (simp [*]; done), by repeat (first | exact Drawn0.refl _ | apply Drawn0.step)⟩

end Go.Proofs.Ytkglpfdoefdhdaa.Q
namespace Go.Proofs.Ytkglpfdoefdhdaa.Q
open Go.RowKit Go.Proofs.YtkglpfdoefdhdaaW.PrintWords Go.Proofs.YtkglpfdoefdhdaaW.PrintLast Go.Proofs.YtkglpfdoefdhdaaW.PrintMore
attribute [local go_sem] max2_int min2_int max_two min_two max_three min_three max_four min_four
set_option linter.unusedVariables false
set_option linter.unusedSimpArgs false

/-! ### impl_isSide: function 150 -/
def impl_isSide.f (a0 : Int) : Option (Bool) := (impl_in.f a0 1 8).bind fun t186 => (some t186)
set_option maxHeartbeats 8000000 in
set_option maxRecDepth 100000 in
theorem impl_isSide.calls (a0 : Int) (r : Bool) (w : World) (h : impl_isSide.f a0 = some r) :
  Calls Try.prog 150 #[.int .i64 a0] w fun e w' => e = .returned (.bool r) ∧ Drawn0 w w' := by
 have H : ((impl_in.f a0 1 8).bind fun t186 => (some t186)) = some r := h
 clear h
 replace H := Option.bind_eq_some_iff.mp H
 obtain ⟨t186, A20, H⟩ := H
 have A2 := Aside0.mk A20
 clear A20
 obtain rfl := Option.some.inj H
 go_enter Try.func150, Try.ntmps150
 go_wp2_with (first | ((with_reducible refine gate_callee (f := 82) rfl ?_); refine goesL_ (some 4) rfl rfl Try.func82 (by kernel_rfl) rfl #[.int .i64 a0, .int .i64 1, .int .i64 8] rfl (by (try simp only [List.map_toArray, List.map_cons, List.map_nil]); first | done | rfl | (simp only [List.length_drop, List.length_take]; rfl)) ?_; (with_reducible refine (impl_in.calls a0 1 8 t186 _ A2.out).mono ?_); rintro e w' ⟨rfl, ⟨nd, rfl⟩⟩; refine ⟨_, rfl, ?_⟩))
 go_ret
 exact ⟨by first | rfl | (simp; done) | (simp [*]; done), by repeat (first | exact Drawn0.refl _ | apply Drawn0.step)⟩

end Go.Proofs.Ytkglpfdoefdhdaa.Q
namespace Go.Proofs.Ytkglpfdoefdhdaa.Q
open Go.RowKit Go.Proofs.YtkglpfdoefdhdaaW.PrintWords Go.Proofs.YtkglpfdoefdhdaaW.PrintLast Go.Proofs.YtkglpfdoefdhdaaW.PrintMore
attribute [local go_sem] max2_int min2_int max_two min_two max_three min_three max_four min_four
set_option linter.unusedVariables false
set_option linter.unusedSimpArgs false

/-! ### impl_isColor: function 152 -/
def impl_isColor.f (a0 : Int) : Option (Bool) := (impl_in.f a0 0 5).bind fun t187 => (some t187)
set_option maxHeartbeats 8000000 in
set_option maxRecDepth 100000 in
theorem impl_isColor.calls (a0 : Int) (r : Bool) (w : World) (h : impl_isColor.f a0 = some r) :
  Calls Try.prog 152 #[.int .i64 a0] w fun e w' => e = .returned (.bool r) ∧ Drawn0 w w' := by
 have H : ((impl_in.f a0 0 5).bind fun t187 => (some t187)) = some r := h
 clear h
 replace H := Option.bind_eq_some_iff.mp H
 obtain ⟨t187, A20, H⟩ := H
 have A2 := Aside0.mk A20
 clear A20
 obtain rfl := Option.some.inj H
 go_enter Try.func152, Try.ntmps152
 go_wp2_with (first | ((with_reducible refine gate_callee (f := 82) rfl ?_); refine goesL_ (some 4) rfl rfl Try.func82 (by kernel_rfl) rfl #[.int .i64 a0, .int .i64 0, .int .i64 5] rfl (by (try simp only [List.map_toArray, List.map_cons, List.map_nil]); first | done | rfl | (simp only [List.length_drop, List.length_take]; rfl)) ?_; (with_reducible refine (impl_in.calls a0 0 5 t187 _ A2.out).mono ?_); rintro e w' ⟨rfl, ⟨nd, rfl⟩⟩; refine ⟨_, rfl, ?_⟩))
 go_ret
 exact ⟨by first | rfl | (simp; done) | (simp [*]; done), by repeat (first | exact Drawn0.refl _ | apply Drawn0.step)⟩

end Go.Proofs.Ytkglpfdoefdhdaa.Q
namespace Go.Proofs.Ytkglpfdoefdhdaa.Q
open Go.RowKit Go.Proofs.YtkglpfdoefdhdaaW.PrintWords Go.Proofs.YtkglpfdoefdhdaaW.PrintLast Go.Proofs.YtkglpfdoefdhdaaW.PrintMore
attribute [local go_sem] max2_int min2_int max_two min_two max_three min_three max_four min_four
set_option linter.unusedVariables false
set_option linter.unusedSimpArgs false

/-! ### impl_isFlawKind: function 153 -/
def impl_isFlawKind.f (a0 : Int) : Option (Bool) := (impl_in.f a0 0 4).bind fun t719 => (some t719)
set_option maxHeartbeats 8000000 in
set_option maxRecDepth 100000 in
theorem impl_isFlawKind.calls (a0 : Int) (r : Bool) (w : World) (h : impl_isFlawKind.f a0 = some r) :
  Calls Try.prog 153 #[.int .i64 a0] w fun e w' => e = .returned (.bool r) ∧ Drawn0 w w' := by
 have H : ((impl_in.f a0 0 4).bind fun t719 => (some t719)) = some r := h
 clear h
 replace H := Option.bind_eq_some_iff.mp H
 obtain ⟨t719, A20, H⟩ := H
 have A2 := Aside0.mk A20
 clear A20
 obtain rfl := Option.some.inj H
 go_enter Try.func153, Try.ntmps153
 go_wp2_with (first | ((with_reducible refine gate_callee (f := 82) rfl ?_); refine goesL_ (some 4) rfl rfl Try.func82 (by kernel_rfl) rfl #[.int .i64 a0, .int .i64 0, .int .i64 4] rfl (by (try simp only [List.map_toArray, List.map_cons, List.map_nil]); first | done | rfl | (simp only [List.length_drop, List.length_take]; rfl)) ?_; (with_reducible refine (impl_in.calls a0 0 4 t719 _ A2.out).mono ?_); rintro e w' ⟨rfl, ⟨nd, rfl⟩⟩; refine ⟨_, rfl, ?_⟩))
 go_ret
 exact ⟨by first | rfl | (simp; done) | (simp [*]; done), by repeat (first | exact Drawn0.refl _ | apply Drawn0.step)⟩

end Go.Proofs.Ytkglpfdoefdhdaa.Q
namespace Go.Proofs.Ytkglpfdoefdhdaa.Q
open Go.RowKit Go.Proofs.YtkglpfdoefdhdaaW.PrintWords Go.Proofs.YtkglpfdoefdhdaaW.PrintLast Go.Proofs.YtkglpfdoefdhdaaW.PrintMore
attribute [local go_sem] max2_int min2_int max_two min_two max_three min_three max_four min_four
set_option linter.unusedVariables false
set_option linter.unusedSimpArgs false

/-! ### impl_Chart_hasPlace: function 154 -/
def impl_Chart_hasPlace.f (a0_0 : Int) (a0_1 : Int) (l0_2 : List Int) (a1 : Int) (a2 : Int) : Option (Bool) := (impl_in.f a1 0 (wrap64 (a0_1 - 1))).bind fun t207 => (if t207 = true then ((impl_in.f a2 0 (wrap64 (a0_0 - 1))).bind fun t208 => (some t208)) else (some false))
set_option maxHeartbeats 8000000 in
set_option maxRecDepth 100000 in
theorem impl_Chart_hasPlace.calls (a0_0 : Int) (a0_1 : Int) (A0_2 : Option Addr) (c0_2 : Nat) (l0_2 : List Int) (a1 : Int) (a2 : Int) (r : Bool) (w : World) (hr0_2 : Kd.C (Kd.int .i64) w A0_2 l0_2.length l0_2) (hc0_2 : l0_2.length ≤ c0_2) (h : impl_Chart_hasPlace.f a0_0 a0_1 l0_2 a1 a2 = some r) :
  Calls Try.prog 154 #[.agg #[.int .i64 a0_0, .int .i64 a0_1, .slice A0_2 l0_2.length c0_2], .int .i64 a1, .int .i64 a2] w fun e w' => e = .returned (.bool r) ∧ Below w.heap.size w w' := by
 have hu26 := Try.underlying26
 have HR0_2 := Aside0.mk hr0_2
 have HC0_2 := Aside0.mk hc0_2
 clear hr0_2 hc0_2
 have HB := Aside0.mk (Below.refl w.heap.size w)
 have H : ((impl_in.f a1 0 (wrap64 (a0_1 - 1))).bind fun t207 => (if t207 = true then ((impl_in.f a2 0 (wrap64 (a0_0 - 1))).bind fun t208 => (some t208)) else (some false))) = some r := h
 clear h
 replace H := Option.bind_eq_some_iff.mp H
 obtain ⟨t207, A40, H⟩ := H
 have A4 := Aside0.mk A40
 clear A40
 by_cases c5 : t207 = true
 ·subst c5
  rw [if_pos rfl] at H
  replace H := Option.bind_eq_some_iff.mp H
  obtain ⟨t208, A60, H⟩ := H
  have A6 := Aside0.mk A60
  clear A60
  obtain rfl := Option.some.inj H
  go_enter Try.func154, Try.ntmps154
  go_wp2_with (first | ((with_reducible refine gate_dst (N := 3) rfl ?_); refine box_event ?hg (N := 3) ?hd (cs := #[.int .i64 a0_0, .int .i64 a0_1, .slice A0_2 l0_2.length c0_2]) (t := 26) ?hr ?_; (case hd => rfl); (case hg => rfl); (case hr => first | (go_simp; done) | (go_simp; rfl)); intro gb206 hg w7 hbox hb; have n0_ := Aside0.mk (below_step (by repeat (first | (with_reducible first | exact HB.out | apply below_alloc | apply pw_below_drewN | apply below_drew1) | exact HB.out)) hb); have n1_ := Aside0.mk (hbox); have n2_ := Aside0.mk ((by rw [hg]; exact (below_size (by repeat (first | (with_reducible first | exact HB.out | apply below_alloc | apply pw_below_drewN | apply below_drew1) | exact HB.out))) : w.heap.size ≤ gb206)); have n3_ := Aside0.mk ((by rw [hg]; exact (below_size (by repeat (first | (with_reducible first | exact HB.out | apply below_alloc | apply pw_below_drewN | apply below_drew1) | exact HB.out))) : w.heap.size ≤ gb206)); clear HB; have HB := n0_; have BK206 := n1_; have GW206 := n2_; have GE206 := n3_; clear n0_ n1_ n2_ n3_; clear hb hbox hg; have hcz8_0 : w7.cell? ⟨gb206, 0, none⟩ = some (.int .i64 a0_0) := (blk_cell BK206.out 0).trans rfl; have hcz8_1 : w7.cell? ⟨gb206, 1, none⟩ = some (.int .i64 a0_1) := (blk_cell BK206.out 1).trans rfl; have hcz8_2 : w7.cell? ⟨gb206, 2, none⟩ = some (.slice A0_2 l0_2.length c0_2) := (blk_cell BK206.out 2).trans rfl; have hfz8_0 := blk_frozen BK206.out 0; have hfz8_1 := blk_frozen BK206.out 1; have hfz8_2 := blk_frozen BK206.out 2) | ((with_reducible refine gate_callee (f := 82) rfl ?_); refine goesL_ (some 11) rfl rfl Try.func82 (by kernel_rfl) rfl #[.int .i64 a1, .int .i64 0, .int .i64 (wrap64 (a0_1 - 1))] rfl (by (try simp only [List.map_toArray, List.map_cons, List.map_nil]); first | done | rfl | (simp only [List.length_drop, List.length_take]; rfl)) ?_; (with_reducible refine (impl_in.calls a1 0 (wrap64 (a0_1 - 1)) true _ A4.out).mono ?_); rintro e w' ⟨rfl, ⟨nd, rfl⟩⟩; refine ⟨_, rfl, ?_⟩) | (go_at_call 82; (with_reducible refine (impl_in.calls a2 0 (wrap64 (a0_0 - 1)) t208 _ A6.out).mono ?_); rintro e w' ⟨rfl, ⟨nd, rfl⟩⟩))
  go_ret
  exact ⟨by first | rfl | (simp [errW_none, errW_some] <;> rfl) | (simp [*, errW_none, errW_some] <;> rfl) | (simp [wrap64]; done), by repeat (first | (with_reducible first | exact HB.out | apply below_alloc | apply pw_below_drewN | apply below_drew1 | refine below_set ?_ GE206.out) | exact HB.out)⟩
 ·replace c5 := Bool.eq_false_iff.mpr c5
  subst c5
  rw [if_neg (show ¬ (false = true) by decide)] at H
  obtain rfl := Option.some.inj H
  go_enter Try.func154, Try.ntmps154
  go_wp2_with (first | ((with_reducible refine gate_dst (N := 3) rfl ?_); refine box_event ?hg (N := 3) ?hd (cs := #[.int .i64 a0_0, .int .i64 a0_1, .slice A0_2 l0_2.length c0_2]) (t := 26) ?hr ?_; (case hd => rfl); (case hg => rfl); (case hr => first | (go_simp; done) | (go_simp; rfl)); intro gb206 hg w9 hbox hb; have n0_ := Aside0.mk (below_step (by repeat (first | (with_reducible first | exact HB.out | apply below_alloc | apply pw_below_drewN | apply below_drew1) | exact HB.out)) hb); have n1_ := Aside0.mk (hbox); have n2_ := Aside0.mk ((by rw [hg]; exact (below_size (by repeat (first | (with_reducible first | exact HB.out | apply below_alloc | apply pw_below_drewN | apply below_drew1) | exact HB.out))) : w.heap.size ≤ gb206)); have n3_ := Aside0.mk ((by rw [hg]; exact (below_size (by repeat (first | (with_reducible first | exact HB.out | apply below_alloc | apply pw_below_drewN | apply below_drew1) | exact HB.out))) : w.heap.size ≤ gb206)); clear HB; have HB := n0_; have BK206 := n1_; have GW206 := n2_; have GE206 := n3_; clear n0_ n1_ n2_ n3_; clear hb hbox hg; have hcz10_0 : w9.cell? ⟨gb206, 0, none⟩ = some (.int .i64 a0_0) := (blk_cell BK206.out 0).trans rfl; have hcz10_1 : w9.cell? ⟨gb206, 1, none⟩ = some (.int .i64 a0_1) := (blk_cell BK206.out 1).trans rfl; have hcz10_2 : w9.cell? ⟨gb206, 2, none⟩ = some (.slice A0_2 l0_2.length c0_2) := (blk_cell BK206.out 2).trans rfl; have hfz10_0 := blk_frozen BK206.out 0; have hfz10_1 := blk_frozen BK206.out 1; have hfz10_2 := blk_frozen BK206.out 2) | ((with_reducible refine gate_callee (f := 82) rfl ?_); refine goesL_ (some 11) rfl rfl Try.func82 (by kernel_rfl) rfl #[.int .i64 a1, .int .i64 0, .int .i64 (wrap64 (a0_1 - 1))] rfl (by (try simp only [List.map_toArray, List.map_cons, List.map_nil]); first | done | rfl | (simp only [List.length_drop, List.length_take]; rfl)) ?_; (with_reducible refine (impl_in.calls a1 0 (wrap64 (a0_1 - 1)) false _ A4.out).mono ?_); rintro e w' ⟨rfl, ⟨nd, rfl⟩⟩; refine ⟨_, rfl, ?_⟩))
  go_ret
  exact ⟨by first | rfl | (simp [errW_none, errW_some] <;> rfl) | (simp [*, errW_none, errW_some] <;> rfl) | (simp [wrap64]; done), by repeat (first | (with_reducible first | exact HB.out | apply below_alloc | apply pw_below_drewN | apply below_drew1 | refine below_set ?_ GE206.out) | exact HB.out)⟩

end Go.Proofs.Ytkglpfdoefdhdaa.Q
namespace Go.Proofs.Ytkglpfdoefdhdaa.Q
open Go.RowKit Go.Proofs.YtkglpfdoefdhdaaW.PrintWords Go.Proofs.YtkglpfdoefdhdaaW.PrintLast Go.Proofs.YtkglpfdoefdhdaaW.PrintMore
attribute [local go_sem] max2_int min2_int max_two min_two max_three min_three max_four min_four
set_option linter.unusedVariables false
set_option linter.unusedSimpArgs false

/-! ### spec_l22Flaw: function 155 -/
def spec_l22Flaw.f (a0_0 : Int) (a0_1 : Int) (a0_2 : Int) (a0_3 : Int) : Option (Bool) := (spec_l1In.f a0_0 0 4).bind fun t774 => (if t774 = true then ((spec_l1In.f a0_3 1 9).bind fun t775 => (some t775)) else (some false))
set_option maxHeartbeats 8000000 in
set_option maxRecDepth 100000 in
theorem spec_l22Flaw.calls (a0_0 : Int) (a0_1 : Int) (a0_2 : Int) (a0_3 : Int) (r : Bool) (w : World) (h : spec_l22Flaw.f a0_0 a0_1 a0_2 a0_3 = some r) :
  Calls Try.prog 155 #[.agg #[.int .i64 a0_0, .int .i64 a0_1, .int .i64 a0_2, .int .i64 a0_3]] w fun e w' => e = .returned (.bool r) ∧ Below w.heap.size w w' := by
 have hu35 := Try.underlying35
 have HB := Aside0.mk (Below.refl w.heap.size w)
 have H : ((spec_l1In.f a0_0 0 4).bind fun t774 => (if t774 = true then ((spec_l1In.f a0_3 1 9).bind fun t775 => (some t775)) else (some false))) = some r := h
 clear h
 replace H := Option.bind_eq_some_iff.mp H
 obtain ⟨t774, A20, H⟩ := H
 have A2 := Aside0.mk A20
 clear A20
 by_cases c3 : t774 = true
 ·subst c3
  rw [if_pos rfl] at H
  replace H := Option.bind_eq_some_iff.mp H
  obtain ⟨t775, A40, H⟩ := H
  have A4 := Aside0.mk A40
  clear A40
  obtain rfl := Option.some.inj H
  go_enter Try.func155, Try.ntmps155
  go_wp2_with (first | ((with_reducible refine gate_dst (N := 1) rfl ?_); refine box_event ?hg (N := 1) ?hd (cs := #[.int .i64 a0_0, .int .i64 a0_1, .int .i64 a0_2, .int .i64 a0_3]) (t := 35) ?hr ?_; (case hd => rfl); (case hg => rfl); (case hr => first | (go_simp; done) | (go_simp; rfl)); intro gb773 hg w5 hbox hb; have n0_ := Aside0.mk (below_step (by repeat (first | (with_reducible first | exact HB.out | apply below_alloc | apply pw_below_drewN | apply below_drew1) | exact HB.out)) hb); have n1_ := Aside0.mk (hbox); have n2_ := Aside0.mk ((by rw [hg]; exact (below_size (by repeat (first | (with_reducible first | exact HB.out | apply below_alloc | apply pw_below_drewN | apply below_drew1) | exact HB.out))) : w.heap.size ≤ gb773)); have n3_ := Aside0.mk ((by rw [hg]; exact (below_size (by repeat (first | (with_reducible first | exact HB.out | apply below_alloc | apply pw_below_drewN | apply below_drew1) | exact HB.out))) : w.heap.size ≤ gb773)); clear HB; have HB := n0_; have BK773 := n1_; have GW773 := n2_; have GE773 := n3_; clear n0_ n1_ n2_ n3_; clear hb hbox hg; have hcz6_0 : w5.cell? ⟨gb773, 0, none⟩ = some (.int .i64 a0_0) := (blk_cell BK773.out 0).trans rfl; have hcz6_1 : w5.cell? ⟨gb773, 1, none⟩ = some (.int .i64 a0_1) := (blk_cell BK773.out 1).trans rfl; have hcz6_2 : w5.cell? ⟨gb773, 2, none⟩ = some (.int .i64 a0_2) := (blk_cell BK773.out 2).trans rfl; have hcz6_3 : w5.cell? ⟨gb773, 3, none⟩ = some (.int .i64 a0_3) := (blk_cell BK773.out 3).trans rfl; have hfz6_0 := blk_frozen BK773.out 0; have hfz6_1 := blk_frozen BK773.out 1; have hfz6_2 := blk_frozen BK773.out 2; have hfz6_3 := blk_frozen BK773.out 3) | ((with_reducible refine gate_callee (f := 91) rfl ?_); refine goesL_ (some 5) rfl rfl Try.func91 (by kernel_rfl) rfl #[.int .i64 a0_0, .int .i64 0, .int .i64 4] rfl (by (try simp only [List.map_toArray, List.map_cons, List.map_nil]); first | done | rfl | (simp only [List.length_drop, List.length_take]; rfl)) ?_; (with_reducible refine (spec_l1In.calls a0_0 0 4 true _ A2.out).mono ?_); rintro e w' ⟨rfl, ⟨nd, rfl⟩⟩; refine ⟨_, rfl, ?_⟩) | (go_at_call 91; (with_reducible refine (spec_l1In.calls a0_3 1 9 t775 _ A4.out).mono ?_); rintro e w' ⟨rfl, ⟨nd, rfl⟩⟩))
  go_ret
  exact ⟨by first | rfl | (simp [errW_none, errW_some] <;> rfl) | (simp [*, errW_none, errW_some] <;> rfl) | (simp [wrap64]; done), by repeat (first | (with_reducible first | exact HB.out | apply below_alloc | apply pw_below_drewN | apply below_drew1 | refine below_set ?_ GE773.out) | exact HB.out)⟩
 ·replace c3 := Bool.eq_false_iff.mpr c3
  subst c3
  rw [if_neg (show ¬ (false = true) by decide)] at H
  obtain rfl := Option.some.inj H
  go_enter Try.func155, Try.ntmps155
  go_wp2_with (first | ((with_reducible refine gate_dst (N := 1) rfl ?_); refine box_event ?hg (N := 1) ?hd (cs := #[.int .i64 a0_0, .int .i64 a0_1, .int .i64 a0_2, .int .i64 a0_3]) (t := 35) ?hr ?_; (case hd => rfl); (case hg => rfl); (case hr => first | (go_simp; done) | (go_simp; rfl)); intro gb773 hg w7 hbox hb; have n0_ := Aside0.mk (below_step (by repeat (first | (with_reducible first | exact HB.out | apply below_alloc | apply pw_below_drewN | apply below_drew1) | exact HB.out)) hb); have n1_ := Aside0.mk (hbox); have n2_ := Aside0.mk ((by rw [hg]; exact (below_size (by repeat (first | (with_reducible first | exact HB.out | apply below_alloc | apply pw_below_drewN | apply below_drew1) | exact HB.out))) : w.heap.size ≤ gb773)); have n3_ := Aside0.mk ((by rw [hg]; exact (below_size (by repeat (first | (with_reducible first | exact HB.out | apply below_alloc | apply pw_below_drewN | apply below_drew1) | exact HB.out))) : w.heap.size ≤ gb773)); clear HB; have HB := n0_; have BK773 := n1_; have GW773 := n2_; have GE773 := n3_; clear n0_ n1_ n2_ n3_; clear hb hbox hg; have hcz8_0 : w7.cell? ⟨gb773, 0, none⟩ = some (.int .i64 a0_0) := (blk_cell BK773.out 0).trans rfl; have hcz8_1 : w7.cell? ⟨gb773, 1, none⟩ = some (.int .i64 a0_1) := (blk_cell BK773.out 1).trans rfl; have hcz8_2 : w7.cell? ⟨gb773, 2, none⟩ = some (.int .i64 a0_2) := (blk_cell BK773.out 2).trans rfl; have hcz8_3 : w7.cell? ⟨gb773, 3, none⟩ = some (.int .i64 a0_3) := (blk_cell BK773.out 3).trans rfl; have hfz8_0 := blk_frozen BK773.out 0; have hfz8_1 := blk_frozen BK773.out 1; have hfz8_2 := blk_frozen BK773.out 2; have hfz8_3 := blk_frozen BK773.out 3) | ((with_reducible refine gate_callee (f := 91) rfl ?_); refine goesL_ (some 5) rfl rfl Try.func91 (by kernel_rfl) rfl #[.int .i64 a0_0, .int .i64 0, .int .i64 4] rfl (by (try simp only [List.map_toArray, List.map_cons, List.map_nil]); first | done | rfl | (simp only [List.length_drop, List.length_take]; rfl)) ?_; (with_reducible refine (spec_l1In.calls a0_0 0 4 false _ A2.out).mono ?_); rintro e w' ⟨rfl, ⟨nd, rfl⟩⟩; refine ⟨_, rfl, ?_⟩))
  go_ret
  exact ⟨by first | rfl | (simp [errW_none, errW_some] <;> rfl) | (simp [*, errW_none, errW_some] <;> rfl) | (simp [wrap64]; done), by repeat (first | (with_reducible first | exact HB.out | apply below_alloc | apply pw_below_drewN | apply below_drew1 | refine below_set ?_ GE773.out) | exact HB.out)⟩

end Go.Proofs.Ytkglpfdoefdhdaa.Q
namespace Go.Proofs.Ytkglpfdoefdhdaa.Q
open Go.RowKit Go.Proofs.YtkglpfdoefdhdaaW.PrintWords Go.Proofs.YtkglpfdoefdhdaaW.PrintLast Go.Proofs.YtkglpfdoefdhdaaW.PrintMore
attribute [local go_sem] max2_int min2_int max_two min_two max_three min_three max_four min_four
set_option linter.unusedVariables false
set_option linter.unusedSimpArgs false

end Go.Proofs.Ytkglpfdoefdhdaa.Q
namespace Go.Proofs.Ytkglpfdoefdhdaa.Q
open Go.RowKit Go.Proofs.YtkglpfdoefdhdaaW.PrintWords Go.Proofs.YtkglpfdoefdhdaaW.PrintLast Go.Proofs.YtkglpfdoefdhdaaW.PrintMore
attribute [local go_sem] max2_int min2_int max_two min_two max_three min_three max_four min_four
set_option linter.unusedVariables false
set_option linter.unusedSimpArgs false

end Go.Proofs.Ytkglpfdoefdhdaa.Q
namespace Go.Proofs.Ytkglpfdoefdhdaa.Q
open Go.RowKit Go.Proofs.YtkglpfdoefdhdaaW.PrintWords Go.Proofs.YtkglpfdoefdhdaaW.PrintLast Go.Proofs.YtkglpfdoefdhdaaW.PrintMore
attribute [local go_sem] max2_int min2_int max_two min_two max_three min_three max_four min_four
set_option linter.unusedVariables false
set_option linter.unusedSimpArgs false

end Go.Proofs.Ytkglpfdoefdhdaa.Q
namespace Go.Proofs.Ytkglpfdoefdhdaa.Q
open Go.RowKit Go.Proofs.YtkglpfdoefdhdaaW.PrintWords Go.Proofs.YtkglpfdoefdhdaaW.PrintLast Go.Proofs.YtkglpfdoefdhdaaW.PrintMore
attribute [local go_sem] max2_int min2_int max_two min_two max_three min_three max_four min_four
set_option linter.unusedVariables false
set_option linter.unusedSimpArgs false

end Go.Proofs.Ytkglpfdoefdhdaa.Q
namespace Go.Proofs.Ytkglpfdoefdhdaa.Q
open Go.RowKit Go.Proofs.YtkglpfdoefdhdaaW.PrintWords Go.Proofs.YtkglpfdoefdhdaaW.PrintLast Go.Proofs.YtkglpfdoefdhdaaW.PrintMore
attribute [local go_sem] max2_int min2_int max_two min_two max_three min_three max_four min_four
set_option linter.unusedVariables false
set_option linter.unusedSimpArgs false

/-! ### spec_l2Color: function 178 -/
def spec_l2Color.f (a0 : Int) : Option (Bool) := (spec_l1In.f a0 0 5).bind fun t125 => (some t125)
set_option maxHeartbeats 8000000 in
set_option maxRecDepth 100000 in
theorem spec_l2Color.calls (a0 : Int) (r : Bool) (w : World) (h : spec_l2Color.f a0 = some r) :
  Calls Try.prog 178 #[.int .i64 a0] w fun e w' => e = .returned (.bool r) ∧ Drawn0 w w' := by
 have H : ((spec_l1In.f a0 0 5).bind fun t125 => (some t125)) = some r := h
 clear h
 replace H := Option.bind_eq_some_iff.mp H
 obtain ⟨t125, A20, H⟩ := H
 have A2 := Aside0.mk A20
 clear A20
 obtain rfl := Option.some.inj H
 go_enter Try.func178, Try.ntmps178
 go_wp2_with (first | ((with_reducible refine gate_callee (f := 91) rfl ?_); refine goesL_ (some 4) rfl rfl Try.func91 (by kernel_rfl) rfl #[.int .i64 a0, .int .i64 0, .int .i64 5] rfl (by (try simp only [List.map_toArray, List.map_cons, List.map_nil]); first | done | rfl | (simp only [List.length_drop, List.length_take]; rfl)) ?_; (with_reducible refine (spec_l1In.calls a0 0 5 t125 _ A2.out).mono ?_); rintro e w' ⟨rfl, ⟨nd, rfl⟩⟩; refine ⟨_, rfl, ?_⟩))
 go_ret
 exact ⟨by first | rfl | (simp; done) | (simp [*]; done), by repeat (first | exact Drawn0.refl _ | apply Drawn0.step)⟩

end Go.Proofs.Ytkglpfdoefdhdaa.Q
namespace Go.Proofs.Ytkglpfdoefdhdaa.Q
open Go.RowKit Go.Proofs.YtkglpfdoefdhdaaW.PrintWords Go.Proofs.YtkglpfdoefdhdaaW.PrintLast Go.Proofs.YtkglpfdoefdhdaaW.PrintMore
attribute [local go_sem] max2_int min2_int max_two min_two max_three min_three max_four min_four
set_option linter.unusedVariables false
set_option linter.unusedSimpArgs false

/-! ### spec_l2Side: function 179 -/
def spec_l2Side.f (a0 : Int) : Option (Bool) := (spec_l1In.f a0 1 8).bind fun t126 => (some t126)
set_option maxHeartbeats 8000000 in
set_option maxRecDepth 100000 in
theorem spec_l2Side.calls (a0 : Int) (r : Bool) (w : World) (h : spec_l2Side.f a0 = some r) :
  Calls Try.prog 179 #[.int .i64 a0] w fun e w' => e = .returned (.bool r) ∧ Drawn0 w w' := by
 have H : ((spec_l1In.f a0 1 8).bind fun t126 => (some t126)) = some r := h
 clear h
 replace H := Option.bind_eq_some_iff.mp H
 obtain ⟨t126, A20, H⟩ := H
 have A2 := Aside0.mk A20
 clear A20
 obtain rfl := Option.some.inj H
 go_enter Try.func179, Try.ntmps179
 go_wp2_with (first | ((with_reducible refine gate_callee (f := 91) rfl ?_); refine goesL_ (some 4) rfl rfl Try.func91 (by kernel_rfl) rfl #[.int .i64 a0, .int .i64 1, .int .i64 8] rfl (by (try simp only [List.map_toArray, List.map_cons, List.map_nil]); first | done | rfl | (simp only [List.length_drop, List.length_take]; rfl)) ?_; (with_reducible refine (spec_l1In.calls a0 1 8 t126 _ A2.out).mono ?_); rintro e w' ⟨rfl, ⟨nd, rfl⟩⟩; refine ⟨_, rfl, ?_⟩))
 go_ret
 exact ⟨by first | rfl | (simp; done) | (simp [*]; done), by repeat (first | exact Drawn0.refl _ | apply Drawn0.step)⟩

end Go.Proofs.Ytkglpfdoefdhdaa.Q
namespace Go.Proofs.Ytkglpfdoefdhdaa.Q
open Go.RowKit Go.Proofs.YtkglpfdoefdhdaaW.PrintWords Go.Proofs.YtkglpfdoefdhdaaW.PrintLast Go.Proofs.YtkglpfdoefdhdaaW.PrintMore
attribute [local go_sem] max2_int min2_int max_two min_two max_three min_three max_four min_four
set_option linter.unusedVariables false
set_option linter.unusedSimpArgs false

end Go.Proofs.Ytkglpfdoefdhdaa.Q
namespace Go.Proofs.Ytkglpfdoefdhdaa.Q
open Go.RowKit Go.Proofs.YtkglpfdoefdhdaaW.PrintWords Go.Proofs.YtkglpfdoefdhdaaW.PrintLast Go.Proofs.YtkglpfdoefdhdaaW.PrintMore
attribute [local go_sem] max2_int min2_int max_two min_two max_three min_three max_four min_four
set_option linter.unusedVariables false
set_option linter.unusedSimpArgs false

end Go.Proofs.Ytkglpfdoefdhdaa.Q
namespace Go.Proofs.Ytkglpfdoefdhdaa.Q
open Go.RowKit Go.Proofs.YtkglpfdoefdhdaaW.PrintWords Go.Proofs.YtkglpfdoefdhdaaW.PrintLast Go.Proofs.YtkglpfdoefdhdaaW.PrintMore
attribute [local go_sem] max2_int min2_int max_two min_two max_three min_three max_four min_four
set_option linter.unusedVariables false
set_option linter.unusedSimpArgs false

/-! ### IndexFunc_192: function 192 -/
set_option maxHeartbeats 2000000 in
set_option maxRecDepth 100000 in
theorem idx_192 (g : Nat) (lb : Array Value) (eg : ∀ args w, (callFunc g args).run Try.prog w = .ok (.enter g args) w) (p : Int → Bool) (A : Option Addr) (c : Nat) (l : List Int) (w : World) (hr : Kd.C (Kd.int .i64) w A l.length l)
  (hp : ∀ x, x ∈ l → ∀ W cs, Below w.heap.size w W → ((Kd.int .i64)).K W x cs → Calls Try.prog g (#[cs[0]!] ++ lb) W fun e W' => e = .returned (.bool (p x)) ∧ Below W.heap.size W W') :
  Calls Try.prog 192 #[.slice A l.length c, .func (.func g) #[] lb] w fun e w' => e = .returned (.int .i64 (idx p l)) ∧ Below w.heap.size w w' := by
 have hn := hr.2.1
 go_enter Try.func192, Try.ntmps192
 go_wp2
 go_loopg [5, 8] l.length (fun gg _ s8 wr => ∃ kk : Nat, kk ≤ l.length ∧ l.length - kk ≤ gg ∧ s8 = .int .i64 kk ∧ Aside0 (Below w.heap.size w wr) ∧ Aside0 (∀ j (hj : j < kk) (h2 : j < l.length), p (l[j]) = false))
 case atStart => exact ⟨0, Nat.zero_le _, by omega, rfl, Aside0.mk (Below.refl _ w), Aside0.mk (fun j hj => absurd hj (Nat.not_lt_zero _))⟩
 case round =>
  obtain ⟨kk, hkk, hg, rfl, BW, AA⟩ := hrel
  by_cases hlt : kk < l.length
  ·have hltz : (kk : Int) < (l.length : Int) := by omega
   have hC := Kd.C_below hr BW.out
   obtain ⟨ad, cs, rfl, hcl, hK, hcell⟩ := Kd.C_get hC 0 (kk : Int) (by omega) (by omega)
   have hel : l.getD (kk : Int).toNat 0 = l[kk] := by simp [List.getD, hlt]
   rw [hel] at hK
   have hcell' : ∀ j u, cs[j]? = some u → wr.cell? (ad.add (kk * 1 + j)) = some u := hcell
   have hcall := hp (l[kk]) (List.getElem_mem hlt) wr cs BW.out hK
   have hK_ := hK
   obtain rfl : cs = [.int .i64 (l[kk])] := hK_
   have hh0 : wr.cell? (ad.add kk) = some (.int .i64 (l[kk])) := by simpa using hcell' 0 _ rfl
   replace hcall : Calls Try.prog g (#[.int .i64 (l[kk])] ++ lb) wr _ := hcall
   have HP := Aside0.mk hp
   have HC := Aside0.mk hC
   have HK := Aside0.mk hK
   clear hp hC hel hcell hcell' hK hcl
   cases hq : p (l[kk]) with
   | true =>
    rw [hq] at hcall
    have HQ := Aside0.mk hq
    clear hq
    go_wp2_with (go_at_fn g; refine hcall.mono ?_; rintro e w' ⟨rfl, hb'⟩)
    go_ret
    refine ⟨?_, BW.out.trans (hb'.mono BW.out.size)⟩
    rw [idx_hit hlt HQ.out (fun j hj => AA.out j hj (by omega))]
    rfl
   | false =>
    rw [hq] at hcall
    have HQ := Aside0.mk hq
    clear hq
    go_wp2_with (go_at_fn g; refine hcall.mono ?_; rintro e w' ⟨rfl, hb'⟩)
    go_roundg (l.length - (kk + 1))
    case measure => omega
    case rel =>
     refine ⟨kk + 1, by omega, by omega, by go_num, Aside0.mk (BW.out.trans (hb'.mono BW.out.size)), Aside0.mk (fun j hj h2 => ?_)⟩
     by_cases e : j = kk
     ·subst e
      exact HQ.out
     ·exact AA.out j (by omega) h2
  ·have hltz : ¬ (kk : Int) < (l.length : Int) := by omega
   have HK : kk = l.length := by omega
   have HK2 := Aside0.mk HK
   clear HK
   go_wp2
   go_ret
   refine ⟨?_, BW.out⟩
   rw [idx_miss (fun j hj => AA.out j (by have := HK2.out; omega) hj)]
   rfl
set_option maxHeartbeats 2000000 in
theorem con_181 (g : Nat) (lb : Array Value) (eg : ∀ args w, (callFunc g args).run Try.prog w = .ok (.enter g args) w) (p : Int → Bool) (A : Option Addr) (c : Nat) (l : List Int) (w : World) (hr : Kd.C (Kd.int .i64) w A l.length l)
  (hp : ∀ x, x ∈ l → ∀ W cs, Below w.heap.size w W → ((Kd.int .i64)).K W x cs → Calls Try.prog g (#[cs[0]!] ++ lb) W fun e W' => e = .returned (.bool (p x)) ∧ Below W.heap.size W W') :
  Calls Try.prog 181 #[.slice A l.length c, .func (.func g) #[] lb] w fun e w' => e = .returned (.bool (l.any p)) ∧ Below w.heap.size w w' := by
 rw [← idx_nonneg]
 go_enter Try.func181, Try.ntmps181
 go_wp2_with (go_at_call 192; refine (idx_192 g lb eg p A c l _ hr hp).mono ?_; rintro e w' ⟨rfl, hb'⟩)
 go_ret
 exact ⟨rfl, hb'⟩

end Go.Proofs.Ytkglpfdoefdhdaa.Q
namespace Go.Proofs.Ytkglpfdoefdhdaa.Q
open Go.RowKit Go.Proofs.YtkglpfdoefdhdaaW.PrintWords Go.Proofs.YtkglpfdoefdhdaaW.PrintLast Go.Proofs.YtkglpfdoefdhdaaW.PrintMore
attribute [local go_sem] max2_int min2_int max_two min_two max_three min_three max_four min_four
set_option linter.unusedVariables false
set_option linter.unusedSimpArgs false

/-! ### areAll_151: function 151 -/
set_option maxHeartbeats 2000000 in
theorem clo_182 (g : Nat) (eg : ∀ args w, (callFunc g args).run Try.prog w = .ok (.enter g args) w) (b : Nat) (x : Int) (cs : List Value) (q : Bool) (w : World) (hb : w.cell? ⟨b, 0, none⟩ = some (.func (.func g) #[] #[])) (hlt : b < w.heap.size)
  (hk : ((Kd.int .i64)).K w x cs)
  (hq : ∀ W, Below w.heap.size w W → Calls Try.prog g #[cs[0]!] W fun e W' => e = .returned (.bool q) ∧ Below W.heap.size W W') :
  Calls Try.prog 182 #[cs[0]!, .pointer (some ⟨b, 0, none⟩)] w fun e w' => e = .returned (.bool (!q)) ∧ Below w.heap.size w w' := by
 obtain rfl : cs = [.int .i64 x] := hk
 replace hq : ∀ W, Below w.heap.size w W → Calls Try.prog g #[.int .i64 x] W fun e W' => e = .returned (.bool q) ∧ Below W.heap.size W W' := hq
 show Calls Try.prog 182 #[.int .i64 x, .pointer (some ⟨b, 0, none⟩)] w _
 have HQ := Aside0.mk hq
 skip
 clear hq
 go_enter Try.func182, Try.ntmps182
 go_wp2_with (go_at_fn g; refine (HQ.out _ (Below.refl _ _)).mono ?_; rintro e w' ⟨rfl, hb'⟩)
 go_ret
 exact ⟨rfl, hb'⟩
set_option maxHeartbeats 2000000 in
theorem all_151 (g : Nat) (eg : ∀ args w, (callFunc g args).run Try.prog w = .ok (.enter g args) w) (p : Int → Bool) (A : Option Addr) (c : Nat) (l : List Int) (w : World) (hr : Kd.C (Kd.int .i64) w A l.length l)
  (hp : ∀ x, x ∈ l → ∀ W cs, Below w.heap.size w W → ((Kd.int .i64)).K W x cs → Calls Try.prog g #[cs[0]!] W fun e W' => e = .returned (.bool (p x)) ∧ Below W.heap.size W W') :
  Calls Try.prog 151 #[.slice A l.length c, .func (.func g) #[] #[]] w fun e w' => e = .returned (.bool (l.all p)) ∧ Below w.heap.size w w' := by
 have hall : l.all p = !(l.any fun x => !p x) := by simp [List.not_any_eq_all_not]
 rw [hall]
 have HH := Aside0.mk hall
 clear hall
 have ha : Below w.heap.size w (w.alloc (.cells #[.func (.func g) #[] #[]] 114)) := (Below.refl _ _).alloc (Nat.le_refl _) _
 have HA := Aside0.mk ha
 clear ha
 have ec : ∀ args w, (callFunc 182 args).run Try.prog w = .ok (.enter 182 args) w := enters_of Try.func182 (by kernel_rfl) rfl
 have hcon := con_181 182 #[.pointer (some ⟨w.heap.size, 0, none⟩)] ec (fun x => !p x) A c l (w.alloc (.cells #[.func (.func g) #[] #[]] 114)) (Kd.C_below hr HA.out) (fun x hx W cs hb hk => by
  have hcell : W.cell? ⟨w.heap.size, 0, none⟩ = some (.func (.func g) #[] #[]) := by
   rw [hb.cell (p := ⟨w.heap.size, 0, none⟩) (by simp)]
   simp
  exact clo_182 g eg w.heap.size x cs (p x) W hcell (by have := hb.size; simp at this; omega) hk (fun W' hW' => hp x hx W' cs (HA.out.trans ((hb.mono (by simp)).trans (hW'.mono (by have := hb.size; simp at this; omega)))) (Kd.K_below _ hW' hk)))
 have HC := Aside0.mk hcon
 clear hcon hp
 go_enter Try.func151, Try.ntmps151
 go_wp2_with (go_at_call 181; refine HC.out.mono ?_; rintro e w' ⟨rfl, hb'⟩)
 go_ret
 exact ⟨rfl, HA.out.trans (hb'.mono (by simp))⟩

end Go.Proofs.Ytkglpfdoefdhdaa.Q
namespace Go.Proofs.Ytkglpfdoefdhdaa.Q
open Go.RowKit Go.Proofs.YtkglpfdoefdhdaaW.PrintWords Go.Proofs.YtkglpfdoefdhdaaW.PrintLast Go.Proofs.YtkglpfdoefdhdaaW.PrintMore
attribute [local go_sem] max2_int min2_int max_two min_two max_three min_three max_four min_four
set_option linter.unusedVariables false
set_option linter.unusedSimpArgs false

end Go.Proofs.Ytkglpfdoefdhdaa.Q
namespace Go.Proofs.Ytkglpfdoefdhdaa.Q
open Go.RowKit Go.Proofs.YtkglpfdoefdhdaaW.PrintWords Go.Proofs.YtkglpfdoefdhdaaW.PrintLast Go.Proofs.YtkglpfdoefdhdaaW.PrintMore
attribute [local go_sem] max2_int min2_int max_two min_two max_three min_three max_four min_four
set_option linter.unusedVariables false
set_option linter.unusedSimpArgs false

end Go.Proofs.Ytkglpfdoefdhdaa.Q
namespace Go.Proofs.Ytkglpfdoefdhdaa.Q
open Go.RowKit Go.Proofs.YtkglpfdoefdhdaaW.PrintWords Go.Proofs.YtkglpfdoefdhdaaW.PrintLast Go.Proofs.YtkglpfdoefdhdaaW.PrintMore
attribute [local go_sem] max2_int min2_int max_two min_two max_three min_three max_four min_four
set_option linter.unusedVariables false
set_option linter.unusedSimpArgs false

end Go.Proofs.Ytkglpfdoefdhdaa.Q
namespace Go.Proofs.Ytkglpfdoefdhdaa.Q
open Go.RowKit Go.Proofs.YtkglpfdoefdhdaaW.PrintWords Go.Proofs.YtkglpfdoefdhdaaW.PrintLast Go.Proofs.YtkglpfdoefdhdaaW.PrintMore
attribute [local go_sem] max2_int min2_int max_two min_two max_three min_three max_four min_four
set_option linter.unusedVariables false
set_option linter.unusedSimpArgs false

/-! ### IndexFunc_184: function 184 -/
set_option maxHeartbeats 2000000 in
set_option maxRecDepth 100000 in
theorem idx_184 (g : Nat) (lb : Array Value) (eg : ∀ args w, (callFunc g args).run Try.prog w = .ok (.enter g args) w) (p : S35 → Bool) (A : Option Addr) (c : Nat) (l : List S35) (w : World) (hr : Kd.C k35 w A l.length l)
  (hp : ∀ x, x ∈ l → ∀ W cs, Below w.heap.size w W → (k35).K W x cs → Calls Try.prog g (#[.agg cs.toArray] ++ lb) W fun e W' => e = .returned (.bool (p x)) ∧ Below W.heap.size W W') :
  Calls Try.prog 184 #[.slice A l.length c, .func (.func g) #[] lb] w fun e w' => e = .returned (.int .i64 (idx p l)) ∧ Below w.heap.size w w' := by
 have hn := hr.2.1
 go_enter Try.func184, Try.ntmps184
 go_wp2
 go_loopg [5, 8] l.length (fun gg _ s8 wr => ∃ kk : Nat, kk ≤ l.length ∧ l.length - kk ≤ gg ∧ s8 = .int .i64 kk ∧ Aside0 (Below w.heap.size w wr) ∧ Aside0 (∀ j (hj : j < kk) (h2 : j < l.length), p (l[j]) = false))
 case atStart => exact ⟨0, Nat.zero_le _, by omega, rfl, Aside0.mk (Below.refl _ w), Aside0.mk (fun j hj => absurd hj (Nat.not_lt_zero _))⟩
 case round =>
  obtain ⟨kk, hkk, hg, rfl, BW, AA⟩ := hrel
  by_cases hlt : kk < l.length
  ·have hltz : (kk : Int) < (l.length : Int) := by omega
   have hC := Kd.C_below hr BW.out
   obtain ⟨ad, cs, rfl, hcl, hK, hcell⟩ := Kd.C_get hC z35 (kk : Int) (by omega) (by omega)
   have hel : l.getD (kk : Int).toNat z35 = l[kk] := by simp [List.getD, hlt]
   rw [hel] at hK
   have hcell' : ∀ j u, cs[j]? = some u → wr.cell? (ad.add (kk * 4 + j)) = some u := hcell
   have hcall := hp (l[kk]) (List.getElem_mem hlt) wr cs BW.out hK
   obtain rfl := k35_open hK
   have hh0 : wr.cell? (ad.add (kk * 4)) = some (.int .i64 ((l[kk]).f0)) := by simpa using hcell' 0 _ rfl
   have hh1 : wr.cell? ⟨(ad.add (kk * 4)).block, (ad.add (kk * 4)).off + 1, none⟩ = some (.int .i64 ((l[kk]).f1)) := by rw [← add_field _ _ 1 (by omega)]; exact hcell' 1 _ rfl
   have hh2 : wr.cell? ⟨(ad.add (kk * 4)).block, (ad.add (kk * 4)).off + 2, none⟩ = some (.int .i64 ((l[kk]).f2)) := by rw [← add_field _ _ 2 (by omega)]; exact hcell' 2 _ rfl
   have hh3 : wr.cell? ⟨(ad.add (kk * 4)).block, (ad.add (kk * 4)).off + 3, none⟩ = some (.int .i64 ((l[kk]).f3)) := by rw [← add_field _ _ 3 (by omega)]; exact hcell' 3 _ rfl
   have HP := Aside0.mk hp
   have HC := Aside0.mk hC
   have HK := Aside0.mk hK
   clear hp hC hel hcell hcell' hK hcl
   cases hq : p (l[kk]) with
   | true =>
    rw [hq] at hcall
    have HQ := Aside0.mk hq
    clear hq
    go_wp2_with (go_at_fn g; refine hcall.mono ?_; rintro e w' ⟨rfl, hb'⟩)
    go_ret
    refine ⟨?_, BW.out.trans (hb'.mono BW.out.size)⟩
    rw [idx_hit hlt HQ.out (fun j hj => AA.out j hj (by omega))]
    rfl
   | false =>
    rw [hq] at hcall
    have HQ := Aside0.mk hq
    clear hq
    go_wp2_with (go_at_fn g; refine hcall.mono ?_; rintro e w' ⟨rfl, hb'⟩)
    go_roundg (l.length - (kk + 1))
    case measure => omega
    case rel =>
     refine ⟨kk + 1, by omega, by omega, by go_num, Aside0.mk (BW.out.trans (hb'.mono BW.out.size)), Aside0.mk (fun j hj h2 => ?_)⟩
     by_cases e : j = kk
     ·subst e
      exact HQ.out
     ·exact AA.out j (by omega) h2
  ·have hltz : ¬ (kk : Int) < (l.length : Int) := by omega
   have HK : kk = l.length := by omega
   have HK2 := Aside0.mk HK
   clear HK
   go_wp2
   go_ret
   refine ⟨?_, BW.out⟩
   rw [idx_miss (fun j hj => AA.out j (by have := HK2.out; omega) hj)]
   rfl
set_option maxHeartbeats 2000000 in
theorem con_163 (g : Nat) (lb : Array Value) (eg : ∀ args w, (callFunc g args).run Try.prog w = .ok (.enter g args) w) (p : S35 → Bool) (A : Option Addr) (c : Nat) (l : List S35) (w : World) (hr : Kd.C k35 w A l.length l)
  (hp : ∀ x, x ∈ l → ∀ W cs, Below w.heap.size w W → (k35).K W x cs → Calls Try.prog g (#[.agg cs.toArray] ++ lb) W fun e W' => e = .returned (.bool (p x)) ∧ Below W.heap.size W W') :
  Calls Try.prog 163 #[.slice A l.length c, .func (.func g) #[] lb] w fun e w' => e = .returned (.bool (l.any p)) ∧ Below w.heap.size w w' := by
 rw [← idx_nonneg]
 go_enter Try.func163, Try.ntmps163
 go_wp2_with (go_at_call 184; refine (idx_184 g lb eg p A c l _ hr hp).mono ?_; rintro e w' ⟨rfl, hb'⟩)
 go_ret
 exact ⟨rfl, hb'⟩

end Go.Proofs.Ytkglpfdoefdhdaa.Q
namespace Go.Proofs.Ytkglpfdoefdhdaa.Q
open Go.RowKit Go.Proofs.YtkglpfdoefdhdaaW.PrintWords Go.Proofs.YtkglpfdoefdhdaaW.PrintLast Go.Proofs.YtkglpfdoefdhdaaW.PrintMore
attribute [local go_sem] max2_int min2_int max_two min_two max_three min_three max_four min_four
set_option linter.unusedVariables false
set_option linter.unusedSimpArgs false

/-! ### areAll_138: function 138 -/
set_option maxHeartbeats 2000000 in
theorem clob_164 (g : Nat) (bv : Value) (eg : ∀ args w, (callFunc g args).run Try.prog w = .ok (.enter g args) w) (b : Nat) (x : S35) (cs : List Value) (q : Bool) (w : World) (hb : w.cell? ⟨b, 0, none⟩ = some (.func (.func g) #[bv] #[])) (hlt : b < w.heap.size)
  (hk : (k35).K w x cs)
  (hq : ∀ W, Below w.heap.size w W → Calls Try.prog g #[bv, .agg cs.toArray] W fun e W' => e = .returned (.bool q) ∧ Below W.heap.size W W') :
  Calls Try.prog 164 #[.agg cs.toArray, .pointer (some ⟨b, 0, none⟩)] w fun e w' => e = .returned (.bool (!q)) ∧ Below w.heap.size w w' := by
 have hu := Try.underlying35
 obtain rfl := k35_open hk
 have HQ := Aside0.mk hq
 have HKK := Aside0.mk hk
 clear hq hk
 go_enter Try.func164, Try.ntmps164
 go_wp2_with (go_at_fn g; refine (HQ.out _ ((Below.refl _ _).alloc (Nat.le_refl _) _)).mono ?_; rintro e w' ⟨rfl, hb'⟩)
 go_ret
 exact ⟨rfl, ((Below.refl _ _).alloc (Nat.le_refl _) _).trans (hb'.mono (by simp))⟩
set_option maxHeartbeats 2000000 in
theorem allb_138 (g : Nat) (bv : Value) (eg : ∀ args w, (callFunc g args).run Try.prog w = .ok (.enter g args) w) (p : S35 → Bool) (A : Option Addr) (c : Nat) (l : List S35) (w : World) (hr : Kd.C k35 w A l.length l)
  (hp : ∀ x, x ∈ l → ∀ W cs, Below w.heap.size w W → (k35).K W x cs → Calls Try.prog g #[bv, .agg cs.toArray] W fun e W' => e = .returned (.bool (p x)) ∧ Below W.heap.size W W') :
  Calls Try.prog 138 #[.slice A l.length c, .func (.func g) #[bv] #[]] w fun e w' => e = .returned (.bool (l.all p)) ∧ Below w.heap.size w w' := by
 have hall : l.all p = !(l.any fun x => !p x) := by simp [List.not_any_eq_all_not]
 rw [hall]
 have HH := Aside0.mk hall
 clear hall
 have ha : Below w.heap.size w (w.alloc (.cells #[.func (.func g) #[bv] #[]] 121)) := (Below.refl _ _).alloc (Nat.le_refl _) _
 have HA := Aside0.mk ha
 clear ha
 have ec : ∀ args w, (callFunc 164 args).run Try.prog w = .ok (.enter 164 args) w := enters_of Try.func164 (by kernel_rfl) rfl
 have hcon := con_163 164 #[.pointer (some ⟨w.heap.size, 0, none⟩)] ec (fun x => !p x) A c l (w.alloc (.cells #[.func (.func g) #[bv] #[]] 121)) (Kd.C_below hr HA.out) (fun x hx W cs hb hk => by
  have hcell : W.cell? ⟨w.heap.size, 0, none⟩ = some (.func (.func g) #[bv] #[]) := by
   rw [hb.cell (p := ⟨w.heap.size, 0, none⟩) (by simp)]
   simp
  exact clob_164 g bv eg w.heap.size x cs (p x) W hcell (by have := hb.size; simp at this; omega) hk (fun W' hW' => hp x hx W' cs (HA.out.trans ((hb.mono (by simp)).trans (hW'.mono (by have := hb.size; simp at this; omega)))) (Kd.K_below _ hW' hk)))
 have HC := Aside0.mk hcon
 clear hcon hp
 go_enter Try.func138, Try.ntmps138
 go_wp2_with (go_at_call 163; refine HC.out.mono ?_; rintro e w' ⟨rfl, hb'⟩)
 go_ret
 exact ⟨rfl, HA.out.trans (hb'.mono (by simp))⟩

end Go.Proofs.Ytkglpfdoefdhdaa.Q
namespace Go.Proofs.Ytkglpfdoefdhdaa.Q
open Go.RowKit Go.Proofs.YtkglpfdoefdhdaaW.PrintWords Go.Proofs.YtkglpfdoefdhdaaW.PrintLast Go.Proofs.YtkglpfdoefdhdaaW.PrintMore
attribute [local go_sem] max2_int min2_int max_two min_two max_three min_three max_four min_four
set_option linter.unusedVariables false
set_option linter.unusedSimpArgs false

/-! ### impl_areAll_int__impl_isColor: function 1000151 -/
def impl_areAll_int__impl_isColor.f (l : List Int)  : Option Bool := (l.mapM (fun x : Int => impl_isColor.f x)).map (fun bs => bs.all id)
theorem impl_areAll_int__impl_isColor.calls (A0 : Option Addr) (c0 : Nat) (l0 : List Int)  (r : Bool) (w : World) (hr0 : Kd.C (Kd.int .i64) w A0 l0.length l0) (hc0 : l0.length ≤ c0)  (h : impl_areAll_int__impl_isColor.f l0  = some r) :
  Calls Try.prog 151 #[.slice A0 l0.length c0, .func (.func 152) #[] #[]] w fun e w' => e = .returned (.bool r) ∧ Below w.heap.size w w' := by
 obtain ⟨p, hp, rfl⟩ := all_pred h
 refine all_151 152 (enters_of Try.func152 (by kernel_rfl) rfl) p A0 c0 l0 w hr0 (fun x hx W cs hb hk => ?_)
 obtain rfl : cs = [.int .i64 x] := hk
 exact (impl_isColor.calls (r := p x) (w := W) (h := hp x hx)).mono fun e w' hh => ⟨hh.1, hh.2.below⟩

end Go.Proofs.Ytkglpfdoefdhdaa.Q

namespace Go.Proofs.Ytkglpfdoefdhdaa.M
open Go.RowKit Go.Proofs.Ytkglpfdoefdhdaa.Q Go.Proofs.YtkglpfdoefdhdaaW.PrintWords Go.Proofs.YtkglpfdoefdhdaaW.PrintLast Go.Proofs.YtkglpfdoefdhdaaW.Pl Classical
set_option linter.unusedSimpArgs false

theorem rdI (l : List Int) (i : Nat) : rd l (i : Int) = nth l i 0 := by unfold rd nth; simp
theorem eqInts (l : List Int) (hm : l.length ≤ 1048576) : Ev (fun k => laws_eqIntS.f k l l) true := by
  unfold laws_eqIntS.f
  simp only [if_true]
  have h := scanE l.length (fun _ => true) true false (fun k i => laws_eqIntS.l0 k l l i) ?hs ?hb ?he
  case hs =>
    intro i r hi _ hr
    refine Ev.succ ?_
    simp only [laws_eqIntS.l0, if_pos (show (i : Int) < (l.length : Int) by omega), if_pos (show (0 : Int) ≤ (i : Int) by omega), if_true, w64 (x := (i : Int) + 1) (by omega)]
    exact hr
  case hb => intro i _ h; cases h
  case he =>
    refine Ev.succ ?_
    simp only [laws_eqIntS.l0, if_neg (show ¬ ((l.length : Int) < (l.length : Int)) by omega)]
    exact Ev.now _
  simpa using h
end Go.Proofs.Ytkglpfdoefdhdaa.M

