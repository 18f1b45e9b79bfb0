import Derived.Test.YthmgiagecgkmiaaDoorSLK
/-! Ends, and calls of printed functions that write. -/
namespace Go.Proofs.YthmgiagecgkmiaaDoorW.SL
open Go Go.RowKit Go.Proofs.YthmgiagecgkmiaaDoorW.PrintWords
set_option linter.unusedSimpArgs false
set_option linter.unusedVariables false
theorem WS.end1 {w w' : World} {S : Nat → Prop} {i : Item} {ps : List (World → Prop)} (h : WS ⟨w, S⟩ w' [i] ps) : ∃ S', i.p w' S' ∧ (∀ k, S' k → k < w.heap.size → S k) ∧ Aft S w w' := by
  obtain ⟨h1, T, ⟨A, C, g1, g2, g3, _⟩, h3, _⟩ := h
  exact ⟨A, g1, fun k hk hlt => (h3 k ((g3 k).2 (.inl hk))).resolve_right (by show ¬ w.heap.size ≤ k; omega), h1⟩
theorem Own.single {i : Item} {w : World} {S : Nat → Prop} (h : i.p w S) : Own [i] w S := ⟨S, fun _ => False, h, fun _ h => h, fun k => by simp, fun _ _ h => h⟩
/-- A row's form. -/
theorem rowS_form {α : Type} {dk : Kd α} {e b : Nat} {w : World} {S : Nat → Prop} {v : Value} {xs : List α} (h : Kd.S dk e w b S v xs) : (∃ c, v = .slice none 0 c ∧ xs = []) ∨ ∃ g c, v = .slice (some ⟨g, 0, none⟩) xs.length c := by
  have hR := Kd.S_R h
  obtain ⟨A, c, rfl, _, hC⟩ := Kd.R_reads hR
  cases A with
  | none =>
    left
    have : xs.length = 0 := by
      rcases Nat.eq_zero_or_pos xs.length with h0 | h0
      · exact h0
      · obtain ⟨ad, he, _⟩ := hC.2.2 h0
        cases he
    exact ⟨c, by rw [this], List.eq_nil_of_length_eq_zero this⟩
  | some ad =>
    obtain ⟨g, rfl⟩ := Kd.R_head hR
    exact .inr ⟨g, c, rfl⟩
theorem row_form {α : Type} {dk : Kd α} {e b : Nat} {w : World} {S : Nat → Prop} {v : Value} {xs : List α} (hR : dk.R e w b S v xs) : (∃ c, v = .slice none 0 c ∧ xs = []) ∨ ∃ g c, v = .slice (some ⟨g, 0, none⟩) xs.length c := by
  obtain ⟨A, c, rfl, _, hC⟩ := Kd.R_reads hR
  cases A with
  | none =>
    left
    have : xs.length = 0 := by
      rcases Nat.eq_zero_or_pos xs.length with h0 | h0
      · exact h0
      · obtain ⟨ad, he, _⟩ := hC.2.2 h0
        cases he
    exact ⟨c, by rw [this], List.eq_nil_of_length_eq_zero this⟩
  | some ad =>
    obtain ⟨g, rfl⟩ := Kd.R_head hR
    exact .inr ⟨g, c, rfl⟩
/-- A printed contract of a function that writes one row. -/
theorem of_kept {α : Type} {dk : Kd α} {e : Nat} {P : Program} {f : FuncId} {args : Array Value} {w : World} {v r : Value} {xs xs' : List α} {A : Nat → Prop}
    (hA : (Item.row dk e 0 v xs).p w A)
    (hc : ∀ (P0 : Nat → Prop) (w0 : World), Below w0.heap.size w0 w → dk.R e w w0.heap.size P0 v xs → Calls P f args w fun e' w' => e' = .returned r ∧ dk.R e w' w0.heap.size (fun k => P0 k ∨ w.heap.size ≤ k) v xs' ∧ Below w0.heap.size w0 w' ∧ Kept w w' (fun k => P0 k)) :
    Calls P f args w fun e' w' => e' = .returned r ∧ ∃ A', (Item.row dk e 0 v xs').p w' A' ∧ (∀ k, A' k → k < w.heap.size → A k) ∧ Aft A w w' := by
  refine (hc A (bare w) (bare_below w) (by rw [bare_size]; exact hA.1)).mono ?_
  rintro e' w' ⟨rfl, h1, h2, h3⟩
  rw [bare_size] at h1
  refine ⟨rfl, fun k => (A k ∨ w.heap.size ≤ k) ∧ k < w'.heap.size, ⟨Kd.R_mono (Kd.R_bound h1) (fun k hk => ⟨hk.1, hk.2.2.1⟩), fun k hk => hk.2⟩, fun k hk hlt => hk.1.resolve_right (by omega), Aft.of_kept h3 (bare_below w) h2⟩
/-! Gates: a goal of another kind fails here at once. -/
section
variable {P : Program} {N : Nat} {B : Base} {L : Sl} {its : List Item} {ps : List (World → Prop)} {Q : Exit → Act → World → Prop} {D : Dm} {k : Nat} {ops : Array Oper} {rest : List Oper} {o : Oper} {c : Code}
theorem gateO (h : Jl P N B D k ops Q (o :: rest) L its ps) : Jl P N B D k ops Q (o :: rest) L its ps := h
theorem gateE (h : Jl P N B D k ops Q [] L its ps) : Jl P N B D k ops Q [] L its ps := h
theorem gateC (h : Cj P N B c Q L its ps) : Cj P N B c Q L its ps := h
end
end Go.Proofs.YthmgiagecgkmiaaDoorW.SL
