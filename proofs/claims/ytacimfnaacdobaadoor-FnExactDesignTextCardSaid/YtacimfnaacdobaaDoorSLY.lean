import Derived.Test.YtacimfnaacdobaaDoorSLX
import Derived.Test.YtacimfnaacdobaaDoorSLS
/-! Constants, arrays in memory. -/
namespace Go.Proofs.YtacimfnaacdobaaDoorW.SL
open Go Go.RowKit Go.Proofs.YtacimfnaacdobaaDoorW.PrintWords Go.Proofs.YtacimfnaacdobaaDoorW.PrintLast
set_option linter.unusedSimpArgs false
set_option linter.unusedVariables false
structure ArT (P : Program) (T e n m : Nat) : Prop where
  und : P.underlying T = some (.array n e)
  inf : (P.info? e).map (·.size) = some m
theorem run_indexArr {P : Program} {w : World} {T e n m : Nat} {ad : Addr} {k : IntKind} {i : Int} (h : ArT P T e n m) (h0 : 0 ≤ i) (h1 : i < (n : Int)) : (Instr.indexAt T (.pointer (some ad)) (.int k i)).run P w = .ok (.pointer (some (ad.add (i.toNat * m)))) w := by
  obtain ⟨j, hj, rfl⟩ := Option.map_eq_some_iff.1 h.inf
  simp [Instr.indexAt, run_underlying h.und, asIntOf, Instr.sureAddr, h0, h1, sizeOf, typeInfo, hj]
section
variable {P : Program} {N : Nat} {B : Base} {L L' : Sl} {its its' : List Item} {ps ps' : List (World → Prop)} {Q : Exit → Act → World → Prop} {D : Dm} {k : Nat} {ops : Array Oper} {rest : List Oper} {o : Oper} {d T n m e g : Nat} {v : Value} {x y : Operand} {cs : List Value}
namespace Y
/-- An operation of constants. -/
theorem const (hr : ∀ a w, (execOp (Act.eval a) o).run P w = .ok (.value v) w) : Yd P N B o v L its ps := .mk <| fun a w hf hW => hr a w
theorem idxA {k : IntKind} {i : Int} (hop : o.op = .indexAddr T x y) (hx : ev L x = some (.pointer (some ⟨g, 0, none⟩))) (hy : ev L y = some (.int k i)) (hT : ArT P T e n m) (h0 : 0 ≤ i) (h1 : i < (n : Int)) : Yd P N B o (.pointer (some ⟨g, i.toNat * m, none⟩)) L its ps := .mk <| fun a w hf hW => by
  have e : (⟨g, 0, none⟩ : Addr).add (i.toNat * m) = ⟨g, i.toNat * m, none⟩ := by unfold Addr.add; split <;> simp_all
  have := run_indexArr (w := w) (ad := ⟨g, 0, none⟩) (k := k) hT h0 h1
  rw [e] at this
  unfold execOp; rw [hop]; simp [hf.ev hx, hf.ev hy, this]
end Y
/-- A literal slice of constants. -/
theorem Jl.litK (n : Nat) (cs : Array Value) (e : Nat) (hw : wants ops L o = some true) (hd : o.dst = some d) (hN : Nat.blt d N = true) (hr : ∀ a w, (execOp (Act.eval a) o).run P w = .ok (.value (.slice (some ⟨w.heap.size, 0, none⟩) n n)) (w.alloc (.cells cs e)))
    (h : ∀ g, Jl P N B D (k + 1) ops Q rest ((d, .slice (some ⟨g, 0, none⟩) n n) :: L) (.box g e cs.toList :: its) ps) (hD : D.takes k = false := by rfl) : Jl P N B D k ops Q (o :: rest) L its ps :=
  Jl.e (fun g : Nat => .slice (some ⟨g, 0, none⟩) n n) (fun g => .box g e cs.toList :: its) (fun _ => ps) hw hd hN (fun a w hf hW =>
    ⟨w.heap.size, w.alloc (.cells cs e), hr a w, fun _ => below_alloc (Below.refl _ _) _, hW.alloc e cs⟩) h hD
end
end Go.Proofs.YtacimfnaacdobaaDoorW.SL
