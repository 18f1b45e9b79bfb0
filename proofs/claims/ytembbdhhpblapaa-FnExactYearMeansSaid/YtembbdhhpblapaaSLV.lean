import Derived.Test.YtembbdhhpblapaaSLX
import Derived.Test.YtembbdhhpblapaaSLA
/-! Rows that a call makes and that are only read: they become facts at once. -/
namespace Go.Proofs.YtembbdhhpblapaaW.SL
open Go Go.RowKit Go.Proofs.YtembbdhhpblapaaW.PrintWords
set_option linter.unusedSimpArgs false
set_option linter.unusedVariables false
theorem rowsC {α : Type} {dk : Kd α} {e : Nat} {ok : Nat → Prop} {w w' W : World} {A : Option Addr} {n c : Nat} {xs : List α} (hr : dk.R e w' w.heap.size ok (.slice A n c) xs) (hm : ∀ k, w.heap.size ≤ k → k < w'.heap.size → W.heap[k]? = w'.heap[k]?) : dk.C W A xs.length xs :=
  (Kd.R_reads' (Kd.R_move (Kd.R_bound hr) (fun k hk => hm k hk.2.1 hk.2.2.1))).2.2
section
variable {P : Program} {N : Nat} {B : Base} {L L' : Sl} {its its' : List Item} {ps ps' : List (World → Prop)} {Q : Exit → Act → World → Prop} {D : Dm} {k : Nat} {ops : Array Oper} {rest : List Oper} {o : Oper} {d e0 e1 e2 : Nat} {α β γ : Type} {da : Kd α} {db : Kd β} {dc : Kd γ}
/-- A call that makes one row. -/
theorem Jl.draw1 (V : Value → Value) (xs : List α) {f : FuncId} {args : Array Operand} {ts : Array TypeId} {vals : List Value} (hw : wants ops L o = some true) (hop : o.op = .call { callee := .value (.func f), args := args, argTypes := ts }) (hd : o.dst = some d) (hN : Nat.blt d N = true)
    (he : Ent P f) (hargs : evs L args.toList = some vals)
    (hc : ∀ w, WS B w its ps → Calls P f vals.toArray w fun e' w' => ∃ v0, e' = .returned (V v0) ∧ da.R e0 w' w.heap.size (fun _ => True) v0 xs ∧ Below w.heap.size w w')
    (h : ∀ A0 c0, xs.length ≤ c0 → Jl P N B D (k + 1) ops Q rest ((d, V (.slice A0 xs.length c0)) :: L) its ((fun W => da.C W A0 xs.length xs) :: ps)) (hD : D.takes k = false := by rfl) : Jl P N B D k ops Q (o :: rest) L its ps :=
  Jl.call (ι := Option Addr × Nat) (fun i => xs.length ≤ i.2) (fun i => V (.slice i.1 xs.length i.2)) (fun _ => its) (fun i => (fun W => da.C W i.1 xs.length xs) :: ps) hw hop hd hN rfl he hargs (fun w hW => by
    simp only [Array.empty_append, Array.append_empty]
    refine (hc w hW).mono ?_
    rintro e' w' ⟨v0, rfl, r0, hb⟩
    obtain ⟨A0, c0, rfl, l0, _⟩ := Kd.R_reads r0
    exact ⟨(A0, c0), rfl, l0, hW.fresh hb (fun W _ _ _ _ hm => rowsC r0 hm), fun _ => hb⟩) (fun i hi => h i.1 i.2 hi) hD
/-- A call that makes three rows. -/
theorem Jl.draw3 (V : Value → Value → Value → Value) (xs : List α) (ys : List β) (zs : List γ) {f : FuncId} {args : Array Operand} {ts : Array TypeId} {vals : List Value} (hw : wants ops L o = some true) (hop : o.op = .call { callee := .value (.func f), args := args, argTypes := ts }) (hd : o.dst = some d) (hN : Nat.blt d N = true)
    (he : Ent P f) (hargs : evs L args.toList = some vals)
    (hc : ∀ w, WS B w its ps → Calls P f vals.toArray w fun e' w' => ∃ v0 v1 v2, e' = .returned (V v0 v1 v2) ∧ da.R e0 w' w.heap.size (fun _ => True) v0 xs ∧ db.R e1 w' w.heap.size (fun k_ => some k_ ≠ (v2 : Value).ownBlock) v1 ys ∧ dc.R e2 w' w.heap.size (fun k_ => some k_ ≠ (v1 : Value).ownBlock) v2 zs ∧ Below w.heap.size w w')
    (h : ∀ A0 c0 A1 c1 A2 c2, xs.length ≤ c0 → ys.length ≤ c1 → zs.length ≤ c2 → Jl P N B D (k + 1) ops Q rest ((d, V (.slice A0 xs.length c0) (.slice A1 ys.length c1) (.slice A2 zs.length c2)) :: L) its ((fun W => da.C W A0 xs.length xs) :: (fun W => db.C W A1 ys.length ys) :: (fun W => dc.C W A2 zs.length zs) :: ps)) (hD : D.takes k = false := by rfl) : Jl P N B D k ops Q (o :: rest) L its ps :=
  Jl.call (ι := (Option Addr × Nat) × (Option Addr × Nat) × (Option Addr × Nat)) (fun i => xs.length ≤ i.1.2 ∧ ys.length ≤ i.2.1.2 ∧ zs.length ≤ i.2.2.2) (fun i => V (.slice i.1.1 xs.length i.1.2) (.slice i.2.1.1 ys.length i.2.1.2) (.slice i.2.2.1 zs.length i.2.2.2)) (fun _ => its) (fun i => (fun W => da.C W i.1.1 xs.length xs) :: (fun W => db.C W i.2.1.1 ys.length ys) :: (fun W => dc.C W i.2.2.1 zs.length zs) :: ps) hw hop hd hN rfl he hargs (fun w hW => by
    simp only [Array.empty_append, Array.append_empty]
    refine (hc w hW).mono ?_
    rintro e' w' ⟨v0, v1, v2, rfl, r0, r1, r2, hb⟩
    obtain ⟨A0, c0, rfl, l0, _⟩ := Kd.R_reads r0
    obtain ⟨A1, c1, rfl, l1, _⟩ := Kd.R_reads r1
    obtain ⟨A2, c2, rfl, l2, _⟩ := Kd.R_reads r2
    have hF := hW.fresh hb (p := fun W => da.C W A0 xs.length xs ∧ db.C W A1 ys.length ys ∧ dc.C W A2 zs.length zs) (fun W _ _ _ _ hm => ⟨rowsC r0 hm, rowsC r1 hm, rowsC r2 hm⟩)
    have h3 := hF.imp (.head _) (fun W h => h.2.2)
    have h2 := h3.imp (.tail _ (.head _)) (fun W h => h.2.1)
    have h1 := h2.imp (.tail _ (.tail _ (.head _))) (fun W h => h.1)
    refine ⟨((A0, c0), (A1, c1), (A2, c2)), rfl, ⟨l0, l1, l2⟩, h1.sub (fun p hp => ?_), fun _ => hb⟩
    simp only [List.mem_cons] at hp ⊢
    rcases hp with rfl | rfl | rfl | hp
    · exact .inl rfl
    · exact .inr (.inl rfl)
    · exact .inr (.inr (.inl rfl))
    · exact .inr (.inr (.inr (.inr hp)))) (fun i hi => h i.1.1 i.1.2 i.2.1.1 i.2.1.2 i.2.2.1 i.2.2.2 hi.1 hi.2.1 hi.2.2) hD
end
end Go.Proofs.YtembbdhhpblapaaW.SL
