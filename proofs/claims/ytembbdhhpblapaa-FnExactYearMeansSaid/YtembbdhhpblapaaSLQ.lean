import Derived.Test.YtembbdhhpblapaaSLA
import Derived.Test.YtembbdhhpblapaaSLX
/-! A block of cells, whatever they are: what is marked and not read again; quotients. -/
namespace Go.Proofs.YtembbdhhpblapaaW.SL
open Go Go.RowKit Go.Proofs.YtembbdhhpblapaaW.PrintWords
set_option linter.unusedSimpArgs false
set_option linter.unusedVariables false
/-- A block of n cells of type T. -/
def Blk (g T n : Nat) : ItemS where
  p w S := (∃ cs : List Value, w.heap[g]? = some (.cells cs.toArray T (0, 0)) ∧ cs.length = n) ∧ ∀ k, S k ↔ k = g
  lt := by
    rintro w S k ⟨⟨cs, h, _⟩, hS⟩ hk
    rw [(hS k).1 hk]
    exact blk_lt h
  loc := by
    rintro w w' S ⟨⟨cs, h, hl⟩, hS⟩ hm
    exact ⟨⟨cs, (hm g ((hS g).2 rfl)).trans h, hl⟩, hS⟩
theorem row_blk {α : Type} {dk : Kd α} {e b g n cap : Nat} {xs : List α} {w : World} {A : Nat → Prop} (h : (Item.row dk e b (.slice (some ⟨g, 0, none⟩) n cap) xs).p w A) : ∃ m, xs.length * dk.sz ≤ m ∧ (Item.any (Blk g e m)).p w (fun k => k = g) ∧ A g := by
  obtain ⟨inner, hr⟩ := Kd.R_own h.1
  rcases hr.2 with ⟨hv, _⟩ | ⟨g', cap', cur, hv, hb, hh, h1, h2, h3, h4⟩
  · cases hv
  · injection hv with e1 e2 e3
    injection e1 with e1
    injection e1 with e1
    subst e1
    refine ⟨cur.size, ?_, ⟨⟨cur.toList, by simpa using hh, by simp⟩, fun k => Iff.rfl⟩, h.1.1 g (by simp [Value.ownBlock])⟩
    rw [h3]
    exact Nat.mul_le_mul_right _ h1
universe u in
theorem set_self {α : Type u} {l : List α} {n : Nat} {x : α} (h : l[n]? = some x) : l.set n x = l := by
  apply List.ext_getElem?
  intro k
  rw [List.getElem?_set]
  by_cases e : n = k
  · subst e
    rw [if_pos rfl, h]
    have := (List.getElem?_eq_some_iff.1 h).1
    simp [this]
  · rw [if_neg e]
section
variable {P : Program} {N : Nat} {B : Base} {L L' : Sl} {its its' : List Item} {ps ps' : List (World → Prop)} {Q : Exit → Act → World → Prop} {D : Dm} {k : Nat} {ops : Array Oper} {rest : List Oper} {o : Oper} {d T T' n g off : Nat} {v : Value} {x y : Operand}
/-- One cell is stored into such a block. -/
theorem Jl.storeK (hw : wants ops L o = some true) (hop : o.op = .store T x y) (hd : o.dst = none) (hx : ev L x = some (.pointer (some ⟨g, off, none⟩))) (hy : ev L y = some v) (hT : SzT P T 1) (h1 : v.oneCell' = true) (hb : Item.any (Blk g T' n) ∈ its) (hl : off < n)
    (h : Jl P N B D (k + 1) ops Q rest L its ps) (hD : D.takes k = false := by rfl) (hE : D.needs k = false := by rfl) : Jl P N B D k ops Q (o :: rest) L its ps :=
  Jl.un its hw hd (fun a w hf hW => by
    obtain ⟨m, hn0⟩ := List.mem_iff_getElem?.1 hb
    obtain ⟨A, ⟨⟨cs, hg, hcl⟩, hA⟩⟩ := hW.item hb
    have hv : v.cells.toList = [v] := by cases v <;> first | rfl | cases h1
    obtain ⟨w', e1, e2, e3⟩ := store_run (P := P) (us := [v]) (cs := cs) hop (hf.ev hx) (hf.ev hy) hv hT.out hg (by simp; omega) (by simpa using h1)
    refine ⟨w', e1, ?_⟩
    have := hW.upd (w' := w') (i' := .any (Blk g T' n)) hn0 (fun A' hA' hA0 => ⟨A', ⟨⟨_, e2, by rw [wr_length (by simp; omega)]; exact hcl⟩, hA'.2⟩, fun k hk _ => hk, e3.os, e3.tape, e3.output, e3.size, fun k hk hn' => e3.block k hk (fun e => hn' ((hA'.2 k).2 e))⟩)
    rwa [set_self hn0] at this) h hD hE
namespace Y
/-- A remainder; a quotient. -/
theorem rem {tx ty : TypeId} {kk : IntKind} {p q : Int} (hop : o.op = .binOp .rem tx x y ty) (hx : ev L x = some (.int kk p)) (hy : ev L y = some (.int kk q)) (hq : q ≠ 0) : Yd P N B o (.int kk (p.tmod q)) L its ps := by
  refine bin hop hx hy (fun w => ?_)
  simp [eqGuard, binOp, Op.intDiv, hq]
theorem quo {tx ty : TypeId} {kk : IntKind} {p q : Int} (hop : o.op = .binOp .quo tx x y ty) (hx : ev L x = some (.int kk p)) (hy : ev L y = some (.int kk q)) (hq : q ≠ 0) : Yd P N B o (.int kk (kk.wrap (p.tdiv q))) L its ps := by
  refine bin hop hx hy (fun w => ?_)
  simp [eqGuard, binOp, Op.intDiv, hq]
end Y
end
end Go.Proofs.YtembbdhhpblapaaW.SL
