import Derived.Test.YthmgiagecgkmiaaDoorSLA
/-! Rows that are only read: an element, a cell of an element. -/
namespace Go.Proofs.YthmgiagecgkmiaaDoorW.SL
open Go Go.RowKit Go.Proofs.YthmgiagecgkmiaaDoorW.PrintWords
set_option linter.unusedSimpArgs false
set_option linter.unusedVariables false
/-- What is read as a row, as bare cells. -/
theorem rows_of_C {α : Type} {dk : Kd α} {w : World} {A : Option Addr} {n : Nat} {xs : List α} (h : dk.C w A n xs) : ∃ rows : List (List Value), rows.length = xs.length ∧ (Kd.raw dk.sz).C w A n rows ∧ ∀ (j : Nat) (x : α) (us : List Value), xs[j]? = some x → rows[j]? = some us → dk.K w x us := by
  unfold Kd.C ReadsRow at *
  obtain ⟨h1, h2, h3⟩ := h
  have key : ∀ j : Nat, ∃ us : List Value, ∀ x, xs[j]? = some x → us.length = dk.sz ∧ dk.K w x us ∧ ∀ ad, A = some ad → ∀ i u, us[i]? = some u → w.cell? (ad.add (j * dk.sz + i)) = some u := by
    intro j
    cases hx : xs[j]? with
    | none => exact ⟨[], fun x hx' => by cases hx'⟩
    | some x =>
      have hj := (List.getElem?_eq_some_iff.1 hx).1
      obtain ⟨ad, ha, h4⟩ := h3 (by omega)
      obtain ⟨c, c1, c2, c3⟩ := h4 j x hx
      exact ⟨c, fun x' hx' => by
        injection hx' with hx'
        subst hx'
        exact ⟨c1, c2, fun ad' ha' i u hu => by rw [ha] at ha'; injection ha' with ha'; subst ha'; exact c3 i u hu⟩⟩
  refine ⟨(List.range xs.length).map (fun j => (key j).choose), by simp, ⟨by simpa using h1, h2, fun hp => ?_⟩, fun j x us hx hu => ?_⟩
  · obtain ⟨ad, ha, _⟩ := h3 hp
    refine ⟨ad, ha, fun j us hu => ?_⟩
    have hj : j < xs.length := by have := (List.getElem?_eq_some_iff.1 hu).1; simpa using this
    have hus : us = (key j).choose := by simp [List.getElem?_map, List.getElem?_range hj] at hu; exact hu.symm
    obtain ⟨k1, k2, k3⟩ := (key j).choose_spec xs[j] (List.getElem?_eq_getElem hj)
    rw [← hus] at k1 k2 k3
    exact ⟨us, k1, ⟨rfl, k1, dk.K_one k2⟩, k3 ad ha⟩
  · have hj : j < xs.length := (List.getElem?_eq_some_iff.1 hx).1
    have hus : us = (key j).choose := by simp [List.getElem?_map, List.getElem?_range hj] at hu; exact hu.symm
    rw [hus]
    exact ((key j).choose_spec x hx).2.1
/-- The cells of element i. -/
theorem cells_of_C {sz n : Nat} {w : World} {ad : Addr} {rows : List (List Value)} (h : (Kd.raw sz).C w (some ad) n rows) {i : Nat} {us : List Value} (hu : rows[i]? = some us) : us.length = sz ∧ Cells w (ad.add (i * sz)) us := by
  unfold Kd.C ReadsRow at h
  obtain ⟨h1, h2, h3⟩ := h
  have hi := (List.getElem?_eq_some_iff.1 hu).1
  obtain ⟨ad', ha, h4⟩ := h3 (by omega)
  injection ha with ha
  subst ha
  obtain ⟨c, c1, c2, c3⟩ := h4 i us hu
  obtain ⟨rfl, _, _⟩ := c2
  exact ⟨c1, fun j u hj => by rw [add_add]; exact c3 j u hj⟩
section
variable {P : Program} {N : Nat} {B : Base} {L : Sl} {its : List Item} {ps : List (World → Prop)} {o : Oper} {T n m : Nat} {x : Operand} {ad ad' : Addr} {rows : List (List Value)} {us : List Value} {u : Value}
namespace Y
/-- A whole element of a row that is only read. -/
theorem loadC (hop : o.op = .load T x) (hx : ev L x = some (.pointer (some ad'))) (hT : AggT P T m) (hp : (fun w => (Kd.raw m).C w (some ad) n rows) ∈ ps) (i : Nat) (had : ad' = ad.add (i * m)) (hu : rows[i]? = some us) : Yd P N B o (.agg us.toArray) L its ps := .mk <| fun a w hf hW => by
  obtain ⟨h1, h2⟩ := cells_of_C (hW.fact hp) hu
  subst had
  have := run_load_agg (P := P) (w := w) (T := T) (ad := ad.add (i * m)) (us := us) (by rw [h1]; exact hT.out) h2
  unfold execOp; rw [hop]; simp [hf.ev hx, this]
/-- A cell of such an element. -/
theorem loadC1 {sz : Nat} (hop : o.op = .load T x) (hx : ev L x = some (.pointer (some ad'))) (hT : ScT P T) (hp : (fun w => (Kd.raw sz).C w (some ad) n rows) ∈ ps) (i j : Nat) (had : ad' = (ad.add (i * sz)).add j) (hu : rows[i]? = some us) (hj : us[j]? = some u) : Yd P N B o u L its ps := .mk <| fun a w hf hW => by
  obtain ⟨h1, h2⟩ := cells_of_C (hW.fact hp) hu
  subst had
  unfold execOp; rw [hop]; simp [hf.ev hx, run_load_one hT.out (h2 j u hj)]
end Y
end
/-! #### items in another order, some left out -/
inductive Pick : List Item → List Item → Prop
  | nil {its} : Pick its []
  | cons {i : Item} {its r q} : OutAt i its r → Pick r q → Pick its (i :: q)
theorem Own.pick : ∀ {its its' : List Item} {w : World} {S : Nat → Prop}, Pick its its' → Own its w S → ∃ S', Own its' w S' ∧ ∀ k, S' k → S k
  | _, _, _, _, .nil, _ => ⟨fun _ => False, fun _ h => h, fun _ h => h.elim⟩
  | _, _, _, _, .cons ho hp, h => by
    obtain ⟨n, hn, rfl⟩ := ho.at
    obtain ⟨A, B, g1, g2, g3, g4⟩ := h.out hn
    obtain ⟨S', h1, h2⟩ := Own.pick hp g2
    exact ⟨fun k => A k ∨ S' k, ⟨A, S', g1, h1, fun _ => Iff.rfl, fun k ha hs => g4 k ha (h2 k hs)⟩, fun k hk => (g3 k).2 (hk.imp id (h2 k))⟩
theorem WS.pick {B : Base} {w : World} {its its' : List Item} {ps : List (World → Prop)} (hp : Pick its its') (h : WS B w its ps) : WS B w its' ps := by
  obtain ⟨h1, S, h2, h3, h4⟩ := h
  obtain ⟨S', g1, g2⟩ := Own.pick hp h2
  exact ⟨h1, S', g1, fun k hk => h3 k (g2 k hk), fun p hp => (h4 p hp).step (Aft.refl S w) (fun k hk _ => g2 k hk)⟩
section
variable {P : Program} {N : Nat} {B : Base} {L L' : Sl} {its its' : List Item} {ps ps' : List (World → Prop)} {Q : Exit → Act → World → Prop} {c c1 c2 : Code}
theorem Ej.cutP {K : Act → World → Prop} {ι : Type} (I : ι → Prop) (Lf : ι → Sl) (If : ι → List Item) (Pf : ι → List (World → Prop)) (hK : ∀ a w, (∃ i, I i ∧ Fr N a (Lf i) ∧ WS B w (If i) (Pf i)) → K a w) (i : ι) (hi : I i) (hL : Sub (Lf i) L) (hI : Pick its (If i)) (hp : ∀ p ∈ Pf i, p ∈ ps) : Ej N B K L its ps :=
  .mk <| fun a w hf hw => hK a w ⟨i, hi, hf.sub hL, (hw.pick hI).sub hp⟩
theorem Cj.pick (hp : Pick its its') (hs : ∀ p ∈ ps', p ∈ ps) (h : Cj P N B c Q L its' ps') : Cj P N B c Q L its ps := by
  refine ⟨?_⟩
  intro a w hf hw
  exact h a w hf ((hw.pick hp).sub hs)
/-- A loop; what it needs picked out of what there is. -/
theorem Cj.loopP {ι : Type} (I : ι → Prop) (Lf : ι → Sl) (If : ι → List Item) (Pf : ι → List (World → Prop)) (μ : ι → Nat) (hc : c = .loop c1) (i0 : ι) (h0 : I i0) (hL : Sub (Lf i0) L) (hI : Pick its (If i0)) (hp : ∀ p ∈ Pf i0, p ∈ ps)
    (h : ∀ i, I i → Cj P N B c1 (Exit.then (fun a w => ∃ j, (I j ∧ μ j < μ i) ∧ Fr N a (Lf j) ∧ WS B w (If j) (Pf j)) Q) (Lf i) (If i) (Pf i)) : Cj P N B c Q L its ps :=
  Cj.pick hI hp (Cj.loop I Lf If Pf μ hc i0 h0 hL rfl (fun _ h => h) h)
end
section
variable {P : Program} {N : Nat} {B : Base} {L : Sl} {its : List Item} {ps : List (World → Prop)} {o : Oper} {T n m : Nat} {x y : Operand} {ad ad' : Addr} {xs : List Int} {p q : Int}
namespace Y
/-- A number out of a row of numbers that is only read. -/
theorem loadI (hop : o.op = .load T x) (hx : ev L x = some (.pointer (some ad'))) (hT : ScT P T) (hp : (fun w => (Kd.int .i64).C w (some ad) n xs) ∈ ps) (i : Int) (h0 : 0 ≤ i) (h1 : i < (n : Int)) (had : ad' = ad.add (i.toNat * 1)) : Yd P N B o (.int .i64 (xs.getD i.toNat 0)) L its ps := .mk <| fun a w hf hW => by
  obtain ⟨ad2, c, e, hl, hr, hcell⟩ := ReadsRow.get_ (hW.fact hp) 0 i h0 h1
  injection e with e
  subst e
  have hc : c = [.int .i64 (xs.getD i.toNat 0)] := hr
  subst hc
  have h2 : w.cell? ad' = some (.int .i64 (xs.getD i.toNat 0)) := by rw [had]; exact hcell 0 _ rfl
  generalize Value.int .i64 (xs.getD i.toNat 0) = v at h2 ⊢
  unfold execOp; rw [hop]; simp [hf.ev hx, run_load_one hT.out h2]
/-- A number out of a row of one's own. -/
theorem loadRI {g cap e b : Nat} (hop : o.op = .load T x) (hx : ev L x = some (.pointer (some ⟨g, n, none⟩))) (hT : ScT P T) (hn : Item.row (Kd.int .i64) e b (.slice (some ⟨g, 0, none⟩) m cap) xs ∈ its) (i : Int) (h0 : 0 ≤ i) (h1 : i < (m : Int)) (hj : n = i.toNat * 1) : Yd P N B o (.int .i64 (xs.getD i.toNat 0)) L its ps := .mk <| fun a w hf hW => by
  obtain ⟨S, hR, _⟩ := hW.item hn
  obtain ⟨cs, hcl, hM, hcc, _⟩ := Kd.R_elem hR 0 i h0 h1
  have hc : cs = [.int .i64 (xs.getD i.toNat 0)] := hM
  subst hc
  have h2 : w.cell? ⟨g, n, none⟩ = some (.int .i64 (xs.getD i.toNat 0)) := by rw [hj]; exact hcc 0 _ rfl
  generalize Value.int .i64 (xs.getD i.toNat 0) = v at h2 ⊢
  unfold execOp; rw [hop]; simp [hf.ev hx, run_load_one hT.out h2]
theorem mx {ts : Array TypeId} (hop : o.op = .call { callee := .builtin .max, args := #[x, y], argTypes := ts }) (hx : ev L x = some (.int .i64 p)) (hy : ev L y = some (.int .i64 q)) : Yd P N B o (.int .i64 (if q > p then q else p)) L its ps := .mk <| fun a w hf _ => by
  unfold execOp; rw [hop]
  simp [resolve, invoke, builtin, Builtin.max_, Builtin.max2, hf.ev hx, hf.ev hy]
theorem mn {ts : Array TypeId} (hop : o.op = .call { callee := .builtin .min, args := #[x, y], argTypes := ts }) (hx : ev L x = some (.int .i64 p)) (hy : ev L y = some (.int .i64 q)) : Yd P N B o (.int .i64 (if q < p then q else p)) L its ps := .mk <| fun a w hf _ => by
  unfold execOp; rw [hop]
  simp [resolve, invoke, builtin, Builtin.min_, Builtin.min2, hf.ev hx, hf.ev hy]
end Y
end
end Go.Proofs.YthmgiagecgkmiaaDoorW.SL
