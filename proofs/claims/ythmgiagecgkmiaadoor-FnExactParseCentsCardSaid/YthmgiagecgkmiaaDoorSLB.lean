import Derived.Test.YthmgiagecgkmiaaDoorSLE
import Derived.Test.YthmgiagecgkmiaaDoorSLD
/-! A row as one block: whole elements read, written, cleared; calls that write beside what stays. -/
namespace Go.Proofs.YthmgiagecgkmiaaDoorW.SL
open Go Go.RowKit Go.Proofs.YthmgiagecgkmiaaDoorW.PrintWords
set_option linter.unusedSimpArgs false
set_option linter.unusedVariables false

/-- Element i's cells. -/
def rowOf (sz : Nat) (cs : List Value) (i : Nat) : List Value := (cs.drop (i * sz)).take sz
theorem rowOf_get {sz : Nat} {cs : List Value} {i k : Nat} (hk : k < sz) : (rowOf sz cs i)[k]? = cs[i * sz + k]? := by simp [rowOf, List.getElem?_take, hk]
theorem rowOf_ext {sz : Nat} {cs cs' : List Value} {i j : Nat} (h : ∀ k, k < sz → cs[i * sz + k]? = cs'[j * sz + k]?) : rowOf sz cs i = rowOf sz cs' j := by
  apply List.ext_getElem?
  intro k
  by_cases hk : k < sz
  · rw [rowOf_get hk, rowOf_get hk, h k hk]
  · simp [rowOf, List.getElem?_take, hk]
theorem wr_length {cs us : List Value} {off : Nat} (h : off + us.length ≤ cs.length) : (wr cs off us).length = cs.length := by
  unfold wr; simp; omega
theorem wr_get {cs us : List Value} {off j : Nat} (h : off + us.length ≤ cs.length) : (wr cs off us)[j]? = if j < off then cs[j]? else if j < off + us.length then us[j - off]? else cs[j]? := by
  unfold wr
  rw [List.getElem?_append, List.getElem?_append]
  simp only [List.length_take, show min off cs.length = off by omega]
  by_cases h1 : j < off
  · simp [h1, List.getElem?_take]
  · rw [if_neg h1, if_neg h1]
    by_cases h2 : j < off + us.length
    · rw [if_pos (by omega), if_pos h2]
    · rw [if_neg (by omega), if_neg h2, List.getElem?_drop]
      congr 1; omega
theorem rowOf_wr_eq {sz : Nat} {cs us : List Value} {i : Nat} (hu : us.length = sz) (h : i * sz + sz ≤ cs.length) : rowOf sz (wr cs (i * sz) us) i = us := by
  apply List.ext_getElem?
  intro k
  by_cases hk : k < sz
  · rw [rowOf_get hk, wr_get (by omega), if_neg (by omega), if_pos (by omega)]
    congr 1; omega
  · rw [List.getElem?_eq_none (by omega : us.length ≤ k)]
    simp [rowOf, List.getElem?_take, hk]
theorem mul_lt_step {i j sz : Nat} (h : i < j) : i * sz + sz ≤ j * sz := by
  have := Nat.mul_le_mul_right sz (show i + 1 ≤ j from h)
  rwa [Nat.add_mul, Nat.one_mul] at this
theorem rowOf_wr_lt {sz : Nat} {cs us : List Value} {i j : Nat} (h : i * sz + us.length ≤ cs.length) (hj : j < i) : rowOf sz (wr cs (i * sz) us) j = rowOf sz cs j :=
  rowOf_ext fun k hk => by
    have := mul_lt_step (sz := sz) hj
    rw [wr_get h, if_pos (by omega)]
theorem rowOf_wr_gt {sz : Nat} {cs us : List Value} {i j : Nat} (h : i * sz + us.length ≤ cs.length) (hu : us.length ≤ sz) (hj : i < j) : rowOf sz (wr cs (i * sz) us) j = rowOf sz cs j :=
  rowOf_ext fun k hk => by
    have := mul_lt_step (sz := sz) hj
    rw [wr_get h, if_neg (by omega), if_neg (by omega)]
theorem raw_cells {sz b : Nat} {w : World} {ok : Nat → Prop} {x cs : List Value} (h : (Kd.raw sz).M w b ok x cs) : cs = x := by
  have h' : cs = x ∧ cs.length = sz ∧ ∀ u ∈ cs, u.oneCell' = true := h
  exact h'.1
/-- A row of bare cells, as its block. -/
theorem raw_box {sz e b g n cap : Nat} {w : World} {ok : Nat → Prop} {rows : List (List Value)} (h : (Kd.raw sz).R e w b ok (.slice (some ⟨g, 0, none⟩) n cap) rows) :
    ∃ cs : List Value, w.heap[g]? = some (.cells cs.toArray e (0, 0)) ∧ cs.length = cap * sz ∧ b ≤ g ∧ n = rows.length ∧ n ≤ cap ∧ cap ≤ maxLen ∧ (∀ j us, rows[j]? = some us → rowOf sz cs j = us ∧ us.length = sz ∧ ∀ u ∈ us, u.oneCell' = true) := by
  obtain ⟨h0, inner, ⟨hl, ho⟩, hr⟩ := h
  rw [show (Kd.raw sz).sz = sz from rfl] at hl hr ho
  rcases ho with ⟨hv, _⟩ | ⟨g', cap', cur, hv, hb, hh, h1, h2, h3, h4⟩
  · cases hv
  · injection hv with e1 e2 e3
    injection e1 with e1
    injection e1 with e1
    subst e1; subst e3
    refine ⟨cur.toList, by simpa using hh, by simpa using h3, hb, e2, by omega, h2, fun j us hj => ?_⟩
    obtain ⟨k1, k2, k3⟩ := hr.2 j us hj
    refine ⟨?_, ?_, ?_⟩
    · rw [← k1, ← h4]
      have hjl : j < rows.length := (List.getElem?_eq_some_iff.1 hj).1
      apply List.ext_getElem?
      intro k
      by_cases hk : k < sz
      · have := mul_lt_step (sz := sz) hjl
        rw [rowOf_get hk, List.getElem?_take, if_pos hk, List.getElem?_drop, List.getElem?_take, if_pos (by show j * sz + k < rows.length * sz; omega)]
      · simp [rowOf, List.getElem?_take, hk]
    · rw [← k1]; exact k2
    · rw [← k1]; exact k3
theorem box_raw {sz e b g cap m : Nat} {w : World} {ok : Nat → Prop} {cs : List Value} {rows : List (List Value)} (hh : w.heap[g]? = some (.cells cs.toArray e (0, 0))) (hl : cs.length = cap * sz) (hb : b ≤ g) (hm : rows.length = m) (hc : m ≤ cap) (hx : cap ≤ maxLen) (hok : ok g)
    (hr : ∀ j us, rows[j]? = some us → rowOf sz cs j = us ∧ us.length = sz ∧ ∀ u ∈ us, u.oneCell' = true) : (Kd.raw sz).R e w b ok (.slice (some ⟨g, 0, none⟩) m cap) rows := by
  subst hm
  have hmul := Nat.mul_le_mul_right sz hc
  refine ⟨fun k hk => ?_, cs.take (rows.length * sz), ⟨by rw [List.length_take]; show min (rows.length * sz) cs.length = rows.length * sz; omega, .inr ⟨g, cap, cs.toArray, rfl, hb, hh, hc, hx, by show cs.toArray.size = cap * sz; simpa using hl, by rfl⟩⟩, by rw [List.length_take]; show min (rows.length * sz) cs.length = rows.length * sz; omega, fun j us hj => ?_⟩
  · have : g = k := by simpa [Value.ownBlock] using hk
    rw [← this]; exact hok
  · obtain ⟨k1, k2, k3⟩ := hr j us hj
    have hjl : j < rows.length := (List.getElem?_eq_some_iff.1 hj).1
    have e1 : ((cs.take (rows.length * sz)).drop (j * sz)).take sz = us := by
      rw [← k1]
      apply List.ext_getElem?
      intro k
      by_cases hk : k < sz
      · have := mul_lt_step (sz := sz) hjl
        rw [rowOf_get hk, List.getElem?_take, if_pos hk, List.getElem?_drop, List.getElem?_take, if_pos (by omega)]
      · simp [rowOf, List.getElem?_take, hk]
    show ((cs.take (rows.length * sz)).drop (j * sz)).take sz = us ∧ (((cs.take (rows.length * sz)).drop (j * sz)).take sz).length = sz ∧ ∀ u ∈ ((cs.take (rows.length * sz)).drop (j * sz)).take sz, u.oneCell' = true
    rw [e1]
    exact ⟨rfl, k2, k3⟩
/-- A row of bare cells that is read, and what its elements are. -/
theorem C_of_rows {α : Type} {dk : Kd α} {w : World} {A : Option Addr} {n : Nat} {rows : List (List Value)} {xs : List α} (h : (Kd.raw dk.sz).C w A n rows) (hl : rows.length = xs.length) (hK : ∀ (j : Nat) (x : α) (us : List Value), xs[j]? = some x → rows[j]? = some us → dk.K w x us) : dk.C w A n xs := by
  unfold Kd.C ReadsRow at *
  rw [show (Kd.raw dk.sz).sz = dk.sz from rfl] at h
  obtain ⟨h1, h2, h3⟩ := h
  refine ⟨by omega, h2, fun hp => ?_⟩
  obtain ⟨ad, ha, h4⟩ := h3 hp
  refine ⟨ad, ha, fun j x hx => ?_⟩
  have hj : j < rows.length := by have := (List.getElem?_eq_some_iff.1 hx).1; omega
  obtain ⟨c, hc1, hc2, hc3⟩ := h4 j _ (List.getElem?_eq_getElem hj)
  obtain ⟨k1, _, _⟩ := hc2
  exact ⟨c, hc1, by rw [k1]; exact hK j x _ hx (List.getElem?_eq_getElem hj), hc3⟩
section
variable {P : Program} {N : Nat} {B : Base} {L L' : Sl} {its its' : List Item} {ps ps' : List (World → Prop)} {Q : Exit → Act → World → Prop} {D : Dm} {k : Nat} {ops : Array Oper} {rest : List Oper} {o : Oper} {d T T' n m off g cap len : Nat} {v v2 v0 : Value} {x y z : Operand} {cs us vs : List Value} {α : Type} {dk : Kd α} {e b : Nat}
namespace Y
/-- A whole element of a block. -/
theorem loadB (hop : o.op = .load T x) (hx : ev L x = some (.pointer (some ⟨g, off, none⟩))) (hT : AggT P T m) (hn : Item.box g T' cs ∈ its) (hl : off + m ≤ cs.length) : Yd P N B o (.agg ((cs.drop off).take m).toArray) L its ps := .mk <| fun a w hf hW => by
  have hg := Box_at hW hn
  have hc : Cells w ⟨g, off, none⟩ ((cs.drop off).take m) := fun j u hu => by
    refine Box_cells hg off j u ?_
    rw [List.getElem?_take] at hu
    split at hu
    · exact hu
    · cases hu
  have hlen : ((cs.drop off).take m).length = m := by simp; omega
  unfold execOp; rw [hop]
  simp only [hf.ev hx]
  have := run_load_agg (P := P) (w := w) (T := T) (ad := ⟨g, off, none⟩) (us := (cs.drop off).take m) (by rw [hlen]; exact hT.out) hc
  simp [this]
/-- The same, the element known. -/
theorem loadE {u : List Value} (hop : o.op = .load T x) (hx : ev L x = some (.pointer (some ⟨g, off, none⟩))) (hT : AggT P T m) (hn : Item.box g T' cs ∈ its) (hu : (cs.drop off).take m = u) (hl : u.length = m) : Yd P N B o (.agg u.toArray) L its ps := by
  rcases Nat.lt_or_ge cs.length (off + m) with h0 | h0
  · have hu0 : u.length = min m (cs.length - off) := by rw [← hu]; simp
    have hm : m = 0 := by omega
    subst hm
    obtain rfl : u = [] := List.eq_nil_of_length_eq_zero hl
    refine .mk fun a w hf hW => ?_
    have := run_load_agg (P := P) (w := w) (T := T) (ad := ⟨g, off, none⟩) (us := []) hT.out (fun j v hv => by simp at hv)
    unfold execOp; rw [hop]
    simp [hf.ev hx, this]
  · subst hu
    exact loadB hop hx hT hn h0
/-- A closure over one variable. -/
theorem mkFn1 {f : FuncId} (hop : o.op = .makeFunc (.func f) #[] #[x]) (hx : ev L x = some v) : Yd P N B o (.func (.func f) #[] #[v]) L its ps := .mk <| fun a w hf hW => by
  unfold execOp; rw [hop]; simp [Instr.makeFunc, hf.ev hx]
/-- x[i:] -/
theorem sliceL {kk : IntKind} {i : Int} {size e' : Nat} (hop : o.op = .slice T x (some y) none none) (hx : ev L x = some (.slice (some ⟨g, 0, none⟩) len cap)) (hy : ev L y = some (.int kk i)) (hT : ElT P T e' size) (h0 : 0 ≤ i) (h1 : i < (len : Int)) (h2 : len ≤ cap) : Yd P N B o (.slice (some ⟨g, i.toNat * size, none⟩) (len - i.toNat) (cap - i.toNat)) L its ps := .mk <| fun a w hf hW => by
  have hTo := hT.out
  unfold elT at hTo
  cases hu : P.underlying T with
  | none => simp [hu] at hTo
  | some dd =>
    cases dd <;> simp [hu] at hTo
    rename_i e2
    obtain ⟨j, hj, rfl, rfl⟩ := hTo
    have he : P.elem T = e2 := by simp [Program.elem, hu]
    have h3 := run_slice_l (P := P) (w := w) T (some ⟨g, 0, none⟩) len cap (by rw [he]; exact hu) kk i h0 (by omega)
    unfold execOp; rw [hop]
    simp only [hf.ev hx, hf.ev hy, Option.map_some, Option.map_none]
    have h4 : (sizeOf (P.elem T)).run P w = .ok j.size w := by rw [he]; simp [sizeOf, typeInfo, hj]
    have h5 : (⟨g, 0, none⟩ : Addr).add (i.toNat * j.size) = ⟨g, i.toNat * j.size, none⟩ := by unfold Addr.add; split <;> simp_all
    simp [Instr.sliceAt, run_underlying hu, h3, h4, sliced, show ¬ cap = i.toNat by omega, h5]
/-- x[:i] -/
theorem sliceH {kk : IntKind} {i : Int} {size e' : Nat} (hop : o.op = .slice T x none (some y) none) (hx : ev L x = some (.slice (some ⟨g, 0, none⟩) len cap)) (hy : ev L y = some (.int kk i)) (hT : ElT P T e' size) (h0 : 0 ≤ i) (h1 : i ≤ (cap : Int)) : Yd P N B o (.slice (some ⟨g, 0, none⟩) i.toNat cap) L its ps := .mk <| fun a w hf hW => by
  have hTo := hT.out
  unfold elT at hTo
  cases hu : P.underlying T with
  | none => simp [hu] at hTo
  | some dd =>
    cases dd <;> simp [hu] at hTo
    rename_i e2
    obtain ⟨j, hj, rfl, rfl⟩ := hTo
    have he : P.elem T = e2 := by simp [Program.elem, hu]
    have h3 := run_slice_h (P := P) (w := w) T (some ⟨g, 0, none⟩) len cap (by rw [he]; exact hu) kk i h0 h1
    unfold execOp; rw [hop]
    simp only [hf.ev hx, hf.ev hy, Option.map_some, Option.map_none]
    have h4 : (sizeOf (P.elem T)).run P w = .ok j.size w := by rw [he]; simp [sizeOf, typeInfo, hj]
    have h5 : (⟨g, 0, none⟩ : Addr).add 0 = ⟨g, 0, none⟩ := by unfold Addr.add; split <;> simp_all
    simp [Instr.sliceAt, run_underlying hu, h3, h4, sliced, h5]
end Y
/-- A whole element of a block is stored. -/
theorem Jl.storeB (hw : wants ops L o = some true) (hop : o.op = .store T x y) (hd : o.dst = none) (hx : ev L x = some (.pointer (some ⟨g, off, none⟩))) (hy : ev L y = some (.agg us.toArray)) (hT : SzT P T m) (hn : SetAt (.box g T' cs) (.box g T' (wr cs off us)) its its') (hm : us.length = m) (hl : off + us.length ≤ cs.length) (h1 : ∀ u ∈ us, u.oneCell' = true)
    (h : Jl P N B D (k + 1) ops Q rest L its' ps) (hD : D.takes k = false := by rfl) (hE : D.needs k = false := by rfl) : Jl P N B D k ops Q (o :: rest) L its ps :=
  Jl.un its' hw hd (fun a w hf hW => by
    subst hm
    obtain ⟨n, hn0, rfl⟩ := hn.at
    have hg := Box_at hW (List.mem_of_getElem? hn0)
    obtain ⟨w', e1, e2, e3⟩ := store_run (P := P) (us := us) hop (hf.ev hx) (hf.ev hy) (by simp [Value.cells]) hT.out hg hl h1
    exact ⟨w', e1, hW.upd hn0 (fun A hA hA0 => ⟨A, ⟨e2, hA.2⟩, fun k hk _ => hk, e3.os, e3.tape, e3.output, e3.size, fun k hk hn' => e3.block k hk (fun e => hn' ((hA.2 k).2 e))⟩)⟩) h hD hE
theorem WS.rowSV {A : Option Addr} {w : World} {c : Nat} {xs : List α} (h : WS B w its ps) (hi : Item.rowS dk e b (.slice A n c) xs ∈ its) : ∃ P0 : Nat → Prop, Kd.V dk e w w.heap.size (fun k => P0 k) (.slice A n c) xs := by
  obtain ⟨S, hS⟩ := h.item hi
  exact ⟨S, Kd.S_V hS.1⟩
/-- A whole record is stored into its block, its cells unknown. -/
theorem Jl.storeW (hw : wants ops L o = some true) (hop : o.op = .store T x y) (hd : o.dst = none) (hx : ev L x = some (.pointer (some ⟨g, 0, none⟩))) (hy : ev L y = some (.agg us.toArray)) (hT : SzT P T m) (hn : SetAt (.box g T' cs) (.box g T' us) its its') (hm : us.length = m) (hl : Nat.beq cs.length m = true) (h1 : ∀ u ∈ us, u.oneCell' = true)
    (h : Jl P N B D (k + 1) ops Q rest L its' ps) (hD : D.takes k = false := by rfl) (hE : D.needs k = false := by rfl) : Jl P N B D k ops Q (o :: rest) L its ps := by
  have hl' := Nat.eq_of_beq_eq_true hl
  have e : wr cs 0 us = us := by unfold wr; simp [hm, hl']
  exact Jl.storeB (m := m) (us := us) (off := 0) (cs := cs) (g := g) (T' := T') (its' := its') hw hop hd hx hy hT (by rw [e]; exact hn) hm (by omega) h1 h hD hE
/-- The end of a block's cells is cleared. -/
theorem Jl.clearB {e' sz : Nat} {zs : List Value} {ts : Array TypeId} (hw : wants ops L o = some true) (hop : o.op = .call { callee := .builtin .clear, args := #[x], argTypes := ts }) (hts : ts[0]? = some T) (hd : o.dst = none) (hx : ev L x = some (.slice (some ⟨g, off, none⟩) n cap)) (hT : ElT P T e' sz) (hz : ZeroT P e' zs) (hzs : zs.length = sz) (hone : allOne zs = true) (hb : Item.box g T' cs ∈ its) (hl : off + n * sz ≤ cs.length) (h0 : 0 < n)
    {its' : List Value → List Item} (hn : ∀ cs', SetAt (.box g T' cs) (.box g T' cs') its (its' cs'))
    (h : ∀ cs', cs'.length = cs.length → (∀ j, j < off → cs'[j]? = cs[j]?) → Jl P N B D (k + 1) ops Q rest L (its' cs') ps) (hD : D.takes k = false := by rfl) (hE : D.needs k = false := by rfl) : Jl P N B D k ops Q (o :: rest) L its ps := by
  refine ⟨?_⟩
  intro a w hf hW
  have hg := Box_at hW hb
  have hTo := hT.out
  unfold elT at hTo
  cases hu : P.underlying T with
  | none => simp [hu] at hTo
  | some dd =>
    cases dd <;> simp [hu] at hTo
    rename_i e2
    obtain ⟨j, hj, rfl, rfl⟩ := hTo
    obtain ⟨z, hz1, hz2⟩ := run_zeroT (w := w) hz.out
    let us := (Builtin.zeroCells z.cells n).toList
    have hzl : z.cells.size = j.size := by rw [← hzs, ← hz2]; simp
    have hul : us.length = n * j.size := by simp [us, Builtin.zeroCells, hzl]
    have huo : ∀ u ∈ us, u.oneCell' = true := by
      intro u hu'
      simp only [us, Builtin.zeroCells, Array.toList_map, List.mem_map] at hu'
      obtain ⟨i, hi, rfl⟩ := hu'
      have hi' : i < n * z.cells.size := by simpa using hi
      have hpos : 0 < z.cells.size := by
        rcases Nat.eq_zero_or_pos z.cells.size with h' | h'
        · rw [h'] at hi'; simp at hi'
        · exact h'
      have hlt : i % z.cells.size < z.cells.size := Nat.mod_lt _ hpos
      rw [getElem!_pos z.cells _ hlt]
      refine allOne_mem hone _ ?_
      rw [← hz2]
      simp
    obtain ⟨w', e1, e2, e3, e4, e5, e6, e7⟩ := storeCells_run (P := P) us 0 ⟨g, off, none⟩ cs w rfl rfl hg (by simpa [hul] using hl) huo
    unfold runG
    rw [if_neg (by rw [hD]; simp), if_pos (hf.wants hw)]
    have hrun : (execOp a.eval o).run P w = .ok (.value (.tuple #[])) w' := by
      obtain ⟨n', rfl⟩ : ∃ n', n = n' + 1 := ⟨n - 1, by omega⟩
      unfold execOp; rw [hop]
      simp [resolve, invoke, builtin, Builtin.clear_, hts, hf.ev hx, run_underlying hu, hz1, us] at e1 ⊢
      rw [e1]; rfl
    unfold Oper.wp
    rw [hrun, Oper.upon_value, hd]
    refine ⟨fun h' => (by rw [hE] at h'; cases h'), ?_⟩
    have hlen : (wr cs (off + 0) us).length = cs.length := wr_length (by rw [hul]; simpa using hl)
    refine h (wr cs (off + 0) us) hlen (fun j' hj' => ?_) _ _ (hf.put_none _) ?_
    · rw [wr_get (by rw [hul]; simpa using hl), if_pos (by omega)]
    · obtain ⟨n2, hn0, he⟩ := (hn (wr cs (off + 0) us)).at
      rw [he]
      exact hW.upd hn0 (fun A hA hA0 => ⟨A, ⟨e2, hA.2⟩, fun k hk _ => hk, e3, e4, e5, by omega, fun k hk hn' => e7 k (fun e => hn' ((hA.2 k).2 e))⟩)
/-- A call of a closure that only makes. -/
theorem Jl.callc {f : FuncId} {fi ca : Array Value} {args : Array Operand} {ts : Array TypeId} {vals : List Value} (hw : wants ops L o = some true) (hop : o.op = .call { callee := .value x, args := args, argTypes := ts }) (hd : o.dst = some d) (hN : Nat.blt d N = true)
    (hx : ev L x = some (.func (.func f) fi ca)) (he : Ent P f) (hargs : evs L args.toList = some vals)
    (hc : ∀ w, WS B w its ps → Calls P f (fi ++ vals.toArray ++ ca) w fun e w' => e = .returned v ∧ Below w.heap.size w w')
    (h : Jl P N B D (k + 1) ops Q rest ((d, v) :: L) its ps) (hD : D.takes k = false := by rfl) : Jl P N B D k ops Q (o :: rest) L its ps :=
  Jl.call (ι := Unit) (fun _ => True) (fun _ => v) (fun _ => its) (fun _ => ps) hw hop hd hN hx he hargs (fun w hW => by
    exact (hc w hW).mono (fun e w' hh => ⟨(), hh.1, trivial, hW.call hh.2, fun _ => hh.2⟩)) (fun _ _ => h) hD
/-- Beside item n, whatever is written in it. -/
theorem WS.beside {w : World} (h : WS B w its ps) {n : Nat} {i : Item} (hn : its[n]? = some i) : ∃ A, i.p w A ∧ (∀ W, Aft A w W → WS B W (its.eraseIdx n) ps) ∧
    ∀ (w' : World) (i' : Item) (A' : Nat → Prop), i'.p w' A' → (∀ k, A' k → k < w.heap.size → A k) → Aft A w w' → WS B w' (i' :: its.eraseIdx n) ps := by
  obtain ⟨h1, S, h2, h3, h4⟩ := h
  obtain ⟨A, C, g0, g1, g2, g3⟩ := h2.out hn
  have hAS : ∀ k, A k → S k := fun k hk => (g2 k).2 (.inl hk)
  have wk : ∀ W, Aft A w W → Aft S w W := fun W ha => ⟨ha.os, ha.tape, ha.output, ha.size, fun k hk hn => ha.block k hk (fun h' => hn (hAS k h'))⟩
  have wB : ∀ W, Aft A w W → Aft B.S B.w W := fun W ha => h1.trans ha (fun k hk hlt => (h3 k (hAS k hk)).resolve_right (by omega))
  have gl : ∀ W, Aft A w W → Own (its.eraseIdx n) W C := fun W ha => g1.loc ha.size (fun k hk => ha.block k (g1.lt k hk) (fun h' => g3 k h' hk))
  refine ⟨A, g0, fun W ha => ⟨wB W ha, C, gl W ha, fun k hk => h3 k ((g2 k).2 (.inr hk)), fun p hp => (h4 p hp).step (wk W ha) (fun k hk _ => (g2 k).2 (.inr hk))⟩, fun w' i' A' hi' hsub ha => ?_⟩
  refine ⟨wB w' ha, fun k => A' k ∨ C k, ⟨A', C, hi', gl w' ha, fun k => Iff.rfl, fun k hk hc => ?_⟩, ?_, fun p hp => (h4 p hp).step (wk w' ha) ?_⟩
  · exact g3 k (hsub k hk (g1.lt k hc)) hc
  · rintro k (hk | hk)
    · by_cases hlt : k < w.heap.size
      · exact h3 k (hAS k (hsub k hk hlt))
      · exact .inr (Nat.le_trans h1.size (by omega))
    · exact h3 k ((g2 k).2 (.inr hk))
  · rintro k (hk | hk) hlt
    · exact hAS k (hsub k hk hlt)
    · exact (g2 k).2 (.inr hk)
/-- A call that writes item i, with what is known beside it. -/
theorem Jl.callX {ι : Type} (I : ι → Prop) (val : ι → Value) (i : Item) (i' : ι → Item) {its0 : List Item} {f : FuncId} {args : Array Operand} {ts : Array TypeId} {vals : List Value} (hw : wants ops L o = some true) (hop : o.op = .call { callee := .value (.func f), args := args, argTypes := ts }) (hd : o.dst = some d) (hN : Nat.blt d N = true)
    (he : Ent P f) (hargs : evs L args.toList = some vals) (hn : OutAt i its its0)
    (hc : ∀ w A, i.p w A → (∀ W, Aft A w W → WS B W its0 ps) → Calls P f vals.toArray w fun e' w' => ∃ j, I j ∧ e' = .returned (val j) ∧ ∃ A', (i' j).p w' A' ∧ (∀ k, A' k → k < w.heap.size → A k) ∧ Aft A w w')
    (h : ∀ j, I j → Jl P N B D (k + 1) ops Q rest ((d, val j) :: L) (i' j :: its0) ps) (hD : D.takes k = false := by rfl) (hE : D.needs k = false := by rfl) : Jl P N B D k ops Q (o :: rest) L its ps := by
  obtain ⟨n, hn0, rfl⟩ := hn.at
  refine ⟨?_⟩
  intro a w hf hW
  unfold runG
  rw [if_neg (by rw [hD]; simp), if_pos (hf.wants hw)]
  have hl := hf.evs hargs
  have ha : args.map a.eval = vals.toArray := by
    apply Array.toList_inj.1
    rw [Array.toList_map]; exact hl
  have hrun : (execOp a.eval o).run P w = .ok (.enter f vals.toArray) w := by
    unfold execOp; rw [hop]
    simp [resolve, Act.eval, Deferred.ofValue, invoke, ha, he.out]
  unfold Oper.wp
  rw [hrun, Oper.upon_enter]
  obtain ⟨A, g1, g2, g3⟩ := hW.beside hn0
  refine (hc w A g1 g2).mono ?_
  rintro e' w' ⟨j, hI, rfl, A', hA', hsub, haft⟩
  refine ⟨fun h' => (by rw [hE] at h'; cases h'), ?_⟩
  rw [hd]
  exact h j hI _ _ (hf.put hN _) (g3 w' (i' j) A' hA' hsub haft)
/-- A call that hands back a row of its own whose elements lead to what is only read. -/
theorem Jl.callN {w0 : World} {P0 : Nat → Prop} (hP : ∀ k, P0 k → k < w0.heap.size) {xs : List α} {f : FuncId} {args : Array Operand} {ts : Array TypeId} {vals : List Value} (hw : wants ops L o = some true) (hop : o.op = .call { callee := .value (.func f), args := args, argTypes := ts }) (hd : o.dst = some d) (hN : Nat.blt d N = true)
    (he : Ent P f) (hargs : evs L args.toList = some vals)
    (hc : ∀ w, WS (base w0) w its ps → Calls P f vals.toArray w fun e' w' => ∃ v, e' = .returned v ∧ Kd.N dk e w' w.heap.size (fun k => P0 k ∨ w.heap.size ≤ k) v xs ∧ Below w.heap.size w w')
    (h : ∀ A c rows (ok : Nat → Prop), xs.length ≤ c → rows.length = xs.length → (xs.length = 0 ∨ ∃ g, A = some ⟨g, 0, none⟩) → (∀ k, ok k → (P0 k ∨ w0.heap.size ≤ k) ∧ some k ≠ (Value.slice A xs.length c).ownBlock) → Jl P N (base w0) D (k + 1) ops Q rest ((d, .slice A xs.length c) :: L) (.row (Kd.raw dk.sz) e 0 (.slice A xs.length c) rows :: its) ((fun W => ∀ (j : Nat) (x : α) (us : List Value), xs[j]? = some x → rows[j]? = some us → Kd.FK dk W ok x us) :: ps)) (hD : D.takes k = false := by rfl) : Jl P N (base w0) D k ops Q (o :: rest) L its ps :=
  Jl.call (ι := (Option Addr × Nat) × List (List Value) × (Nat → Prop)) (fun i => xs.length ≤ i.1.2 ∧ i.2.1.length = xs.length ∧ (xs.length = 0 ∨ ∃ g, i.1.1 = some ⟨g, 0, none⟩) ∧ ∀ k, i.2.2 k → (P0 k ∨ w0.heap.size ≤ k) ∧ some k ≠ (Value.slice i.1.1 xs.length i.1.2).ownBlock) (fun i => .slice i.1.1 xs.length i.1.2) (fun i => .row (Kd.raw dk.sz) e 0 (.slice i.1.1 xs.length i.1.2) i.2.1 :: its)
    (fun i => (fun W => ∀ (j : Nat) (x : α) (us : List Value), xs[j]? = some x → i.2.1[j]? = some us → Kd.FK dk W i.2.2 x us) :: ps) hw hop hd hN rfl he hargs (fun w hW => by
    simp only [Array.empty_append, Array.append_empty]
    refine (hc w hW).mono ?_
    rintro e' w' ⟨v, rfl, hr, hb⟩
    obtain ⟨A, c, rfl⟩ := Kd.N_slice hr
    have hcap := (Kd.N_reads' hr).2.1
    obtain ⟨g0, rows, g1, g2, g3⟩ := hr
    have hown : ∀ k, (Value.slice A xs.length c).ownBlock = some k → w.heap.size ≤ k := fun k hk => Kd.R_base g2 k hk
    have hform : xs.length = 0 ∨ ∃ g, A = some ⟨g, 0, none⟩ := by
      rcases row_form g2 with ⟨c', he, hx⟩ | ⟨g, c', he⟩
      · left; rw [← g1, hx]; rfl
      · right; injection he with he; exact ⟨g, he⟩
    refine ⟨((A, c), rows, fun k => ((P0 k ∨ w.heap.size ≤ k) ∧ some k ≠ (Value.slice A xs.length c).ownBlock) ∧ k < w'.heap.size), rfl, ⟨hcap, g1, hform, fun k hk => ⟨hk.1.1.imp id (fun h' => Nat.le_trans hW.size h'), hk.1.2⟩⟩, ?_, fun _ => hb⟩
    obtain ⟨h1, S, h2, h3, h4⟩ := hW
    have hS : ∀ k, S k → w0.heap.size ≤ k := fun k hk => (h3 k hk).resolve_left (fun h' => h')
    refine ⟨h1.trans (Aft.of_below (fun _ => False) hb) (fun k hk _ => hk), fun k => some k = (Value.slice A xs.length c).ownBlock ∨ S k, ⟨fun k => some k = (Value.slice A xs.length c).ownBlock, S, ⟨Kd.R_lower g2 (Nat.zero_le _), fun k hk => Kd.R_lt g2 k hk.symm⟩, h2.loc hb.size (fun k hk => hb.block k (h2.lt k hk)), fun k => Iff.rfl, fun k hk hs => absurd (h2.lt k hs) (Nat.not_lt.2 (hown k hk.symm))⟩, ?_, fun p hp => ?_⟩
    · rintro k (hk | hk)
      · exact .inr (Nat.le_trans h1.size (hown k hk.symm))
      · exact h3 k hk
    rcases List.mem_cons.1 hp with rfl | hp
    · intro W hWW j x us hx hu
      refine Kd.FK_step (Kd.FK_bound (g3 j x us hx hu)) (fun k hk hlt => hWW.block k hlt ?_)
      rintro (h' | h')
      · exact hk.1.2 h'
      · rcases hk.1.1 with h'' | h''
        · exact absurd (hP k h'') (Nat.not_lt.2 (hS k h'))
        · exact absurd (h2.lt k h') (Nat.not_lt.2 h'')
    · exact (h4 p hp).step (Aft.of_below S hb) (fun k hk hlt => hk.resolve_left (fun h' => absurd (hown k h'.symm) (Nat.not_le.2 hlt)))) (fun i hi => h i.1.1 i.1.2 i.2.1 i.2.2 hi.1 hi.2.1 hi.2.2.1 hi.2.2.2) hD
end
end Go.Proofs.YthmgiagecgkmiaaDoorW.SL
