import Derived.Test.YthmgiagecgkmiaaDoorSLB
/-! Literal rows and append. -/
namespace Go.Proofs.YthmgiagecgkmiaaDoorW.SL
open Go Go.RowKit Go.Proofs.YthmgiagecgkmiaaDoorW.PrintWords
set_option linter.unusedSimpArgs false
set_option linter.unusedVariables false
/-- What append asks of an element type: its zero value, size and bytes. -/
structure ApT (P : Program) (T e size bytes : Nat) : Prop where
  und : P.underlying T = some (.slice e)
  inf : ∃ i z, P.info? e = some i ∧ i.zero = some z ∧ i.size = size ∧ i.bytes = bytes ∧ z.cells.size = size
  pos : 0 < size
theorem apT_of {P : Program} {T e size bytes : Nat} {z : Value} (hu : P.underlying T = some (.slice e)) (hi : (P.info? e).map (fun i => (i.zero, i.size, i.bytes)) = some (some z, size, bytes)) (hz : z.cells.size = size) (h0 : 0 < size) : ApT P T e size bytes := by
  obtain ⟨i, h1, h2⟩ := Option.map_eq_some_iff.1 hi
  simp only [Prod.mk.injEq] at h2
  exact ⟨hu, ⟨i, z, h1, h2.1, h2.2.1, h2.2.2, hz⟩, h0⟩
theorem WS.swap {B : Base} {w : World} {i j : Item} {its : List Item} {ps : List (World → Prop)} (h : WS B w (i :: j :: its) ps) : WS B w (j :: i :: its) ps :=
  h.recut (fun S hS => by
    obtain ⟨A, C, h1, ⟨A2, C2, g1, g2, g3, g4⟩, h3, h4⟩ := hS
    refine ⟨A2, fun k => A k ∨ C2 k, g1, ⟨A, C2, h1, g2, fun _ => Iff.rfl, fun k hk hc => h4 k hk ((g3 k).2 (.inr hc))⟩, fun k => ?_, fun k hk hc => ?_⟩
    · rw [h3 k, g3 k]
      constructor
      · rintro (h | h | h)
        · exact .inr (.inl h)
        · exact .inl h
        · exact .inr (.inr h)
      · rintro (h | h | h)
        · exact .inr (.inl h)
        · exact .inl h
        · exact .inr (.inr h)
    · rcases hc with hc | hc
      · exact h4 k hc ((g3 k).2 (.inl hk))
      · exact g4 k hk hc)
theorem map_range0 (f : Nat → Value) : Array.map f (Array.range 0) = #[] := by apply Array.toList_inj.1; rw [Array.toList_map, Array.toList_range]; rfl
theorem map_range1 (f : Nat → Value) : Array.map f (Array.range 1) = #[f 0] := by apply Array.toList_inj.1; rw [Array.toList_map, Array.toList_range]; rfl
section
variable {P : Program} {N : Nat} {B : Base} {L L' : Sl} {its its' : List Item} {ps ps' : List (World → Prop)} {Q : Exit → Act → World → Prop} {D : Dm} {k : Nat} {ops : Array Oper} {rest : List Oper} {o : Oper} {d T n m gx e bytes : Nat} {v v2 : Value} {x y z : Operand} {cs us : List Value} {α : Type} {dk : Kd α} {xs : List α}
/-- x = append(x, one element). -/
theorem Jl.app (p : α) (okp : Nat → Prop) (hw : wants ops L o = some true) (hop : o.op = .call { callee := .builtin .append, args := #[x, y], argTypes := #[T, T] }) (hd : o.dst = some d) (hN : Nat.blt d N = true) (hx : ev L x = some v) (hy : ev L y = some (.slice (some ⟨gx, 0, none⟩) 1 1))
    (hT : ApT P T e dk.sz bytes) (hb : Item.box gx e us ∈ its) (hul : us.length = dk.sz) (hM : ∀ w : World, dk.M w 0 (fun _ => False) p us) (hone : ∀ u ∈ us, u.oneCell' = true)
    (hn : OutAt (.row dk e 0 v xs) its its') (hl : (xs.length + 1) * bytes ≤ 140737488355328) (hl2 : xs.length + 1 ≤ 9223372036854775807)
    (h : ∀ A c, xs.length + 1 ≤ c → Jl P N B D (k + 1) ops Q rest ((d, .slice A (xs ++ [p]).length c) :: L) (.row dk e 0 (.slice A (xs ++ [p]).length c) (xs ++ [p]) :: its') ps) (hD : D.takes k = false := by rfl) (hEE : D.needs k = false := by rfl) : Jl P N B D k ops Q (o :: rest) L its ps := by
  obtain ⟨n, hn0, rfl⟩ := hn.at
  refine ⟨?_⟩
  intro a w hf hW
  have hbx := Box_at hW hb
  obtain ⟨i, zz, i1, i2, i3, i4, i5⟩ := hT.inf
  obtain ⟨A, g1, g2, g3⟩ := hW.beside hn0
  obtain ⟨r1, r2⟩ := g1
  obtain ⟨q0, inner, hown, hr⟩ := Kd.R_mono r1 (ok' := fun k => A k ∨ w.heap.size ≤ k) (fun k hk => .inl hk)
  obtain ⟨v', w', e1, e2, e3, _, e4⟩ := run_append_own_at (P := P) (w := w) 0 T o.type e i zz dk.sz bytes hT.und i1 i2 i3 i4 i5 hT.pos v xs.length inner hown ⟨gx, 0, none⟩ 1 1 us (by rw [hul, Nat.one_mul]) (fun j u hu => by
    have := Box_cells hbx 0 j u (by simpa using hu)
    simpa using this) hone (by simp only [maxLen]; omega) hl (Nat.zero_le _)
  have hR := Kd.R_appended q0 hr (hM w) (fun k hk => hk.elim) (fun k hk => .inr hk) e2 e3 (e4.imp id (fun h => ⟨_, h, Nat.le_refl _⟩))
  obtain ⟨A', c', rfl, hc', _⟩ := Kd.R_reads hR
  rw [List.length_append, List.length_singleton] at hc'
  have hAown : ∀ k, v.ownBlock = some k → A k := r1.1
  have haft : Aft A w w' := ⟨e3.os, e3.tape, e3.output, e3.size, fun k hk hnA => e3.block k hk (fun e => hnA (hAown k e.symm))⟩
  unfold runG
  rw [if_neg (by rw [hD]; simp), if_pos (hf.wants hw)]
  have hrun : (execOp a.eval o).run P w = .ok (.value (.slice A' (xs ++ [p]).length c')) w' := by
    unfold execOp; rw [hop]
    simp only [List.length_append, List.length_singleton] at e1 ⊢
    simp [resolve, invoke, builtin, hf.ev hx, hf.ev hy, e1]
  unfold Oper.wp
  rw [hrun, Oper.upon_value, hd]
  refine ⟨fun h' => (by rw [hEE] at h'; cases h'), ?_⟩
  exact h A' c' hc' _ _ (hf.put hN _) (g3 w' _ (fun k => (A k ∨ w.heap.size ≤ k) ∧ k < w'.heap.size) ⟨Kd.R_mono (Kd.R_bound hR) (fun k hk => ⟨hk.1, hk.2.2.1⟩), fun k hk => hk.2⟩ (fun k hk hlt => hk.1.resolve_right (by omega)) haft)
/-- A literal without elements. -/
theorem Jl.lit0 (dk : Kd α) {sz : Nat} (hw : wants ops L o = some true) (hop : o.op = .buildSlice T 0 #[]) (hd : o.dst = some d) (hN : Nat.blt d N = true) (hT : ElT P T e sz)
    (h : ∀ g, Jl P N B D (k + 1) ops Q rest ((d, .slice (some ⟨g, 0, none⟩) ([] : List α).length 0) :: L) (.row dk e 0 (.slice (some ⟨g, 0, none⟩) ([] : List α).length 0) ([] : List α) :: its) ps) (hD : D.takes k = false := by rfl) : Jl P N B D k ops Q (o :: rest) L its ps :=
  Jl.e (fun g : Nat => .slice (some ⟨g, 0, none⟩) ([] : List α).length 0) (fun g => .row dk e 0 (.slice (some ⟨g, 0, none⟩) ([] : List α).length 0) ([] : List α) :: its) (fun _ => ps) hw hd hN (fun a w hf hW => by
    have hTo := hT.out
    unfold elT at hTo
    cases hu : P.underlying T with
    | none => simp [hu] at hTo
    | some dd =>
      cases dd <;> simp [hu] at hTo
      rename_i e2
      obtain ⟨j, hj, rfl, rfl⟩ := hTo
      have hb : Below w.heap.size w (w.alloc (.cells #[] e2)) := below_alloc (Below.refl _ _) _
      refine ⟨w.heap.size, w.alloc (.cells #[] e2), ?_, fun _ => hb, hW.new hb (A := fun k => k = w.heap.size) ⟨⟨fun k hk => ?_, [], ⟨by simp, .inr ⟨w.heap.size, 0, #[], rfl, Nat.zero_le _, heap_alloc_new w _, Nat.le_refl _, Nat.zero_le _, by simp, by simp⟩⟩, Reps.none _ _⟩, fun k hk => by rw [hk]; simp⟩ (fun k hk => by rw [hk]; exact Nat.le_refl _)⟩
      · unfold execOp; rw [hop]
        simp [Instr.buildSlice, run_underlying hu, sizeOf, typeInfo, hj, Instr.fill, newRow, map_range0]
      · have : w.heap.size = k := by simpa [Value.ownBlock] using hk
        exact this.symm) h hD
/-- A literal of one element of one cell. -/
theorem Jl.lit1 {u z0 : Value} (hw : wants ops L o = some true) (hop : o.op = .buildSlice T 1 #[(0, x)]) (hd : o.dst = some d) (hN : Nat.blt d N = true) (hx : ev L x = some u) (hT : ElT P T e 1) (hz : ZeroT P e [z0]) (hu1 : u.oneCell' = true)
    (h : ∀ g, Jl P N B D (k + 1) ops Q rest ((d, .slice (some ⟨g, 0, none⟩) 1 1) :: L) (.box g e [u] :: its) ps) (hD : D.takes k = false := by rfl) : Jl P N B D k ops Q (o :: rest) L its ps :=
  Jl.e (fun g : Nat => .slice (some ⟨g, 0, none⟩) 1 1) (fun g => .box g e [u] :: its) (fun _ => ps) hw hd hN (fun a w hf hW => by
    have hTo := hT.out
    unfold elT at hTo
    obtain ⟨z, hz1, hz2⟩ := run_zeroT (w := w) hz.out
    have hzc : z.cells = #[z0] := by apply Array.toList_inj.1; rw [hz2]
    have huc : u.cells = #[u] := by cases u <;> first | rfl | cases hu1
    cases hu : P.underlying T with
    | none => simp [hu] at hTo
    | some dd =>
      cases dd <;> simp [hu] at hTo
      rename_i e2
      obtain ⟨j, hj, rfl, hj1⟩ := hTo
      refine ⟨w.heap.size, w.alloc (.cells #[u] e2), ?_, fun _ => below_alloc (Below.refl _ _) _, hW.alloc e2 #[u]⟩
      unfold execOp; rw [hop]
      simp [Instr.buildSlice, run_underlying hu, sizeOf, typeInfo, hj, hj1, hz1, hzc, Instr.fill, newRow, hf.ev hx, huc, map_range1]) h hD
end
end Go.Proofs.YthmgiagecgkmiaaDoorW.SL
