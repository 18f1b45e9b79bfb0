import Derived.Test.YthmgiagecgkmiaaDoorSLR
/-! The rules for memory and for calls. -/
namespace Go.Proofs.YthmgiagecgkmiaaDoorW.SL
open Go Go.RowKit Go.Proofs.YthmgiagecgkmiaaDoorW.PrintWords
set_option linter.unusedSimpArgs false
set_option linter.unusedVariables false

/-! #### what is asked of types -/
def aggT (P : Program) (T : TypeId) : Option Nat := match P.underlying T with
  | some (.struct _) => (P.info? T).map (·.size)
  | some (.array _ _) => (P.info? T).map (·.size)
  | _ => none
def scT (P : Program) (T : TypeId) : Bool := match P.underlying T with
  | some (.struct _) => false
  | some (.array _ _) => false
  | some _ => decide ((P.info? T).map (·.size) = some 1)
  | none => false
def zeroT (P : Program) (T : TypeId) : Option (List Value) := ((P.info? T).bind (·.zero)).map (·.cells.toList)
def fldT (P : Program) (S : TypeId) (f : Nat) : Option Nat := match P.underlying S with
  | some (.struct fs) => (fs[f]?).bind fun fl => (P.info? fl.type).bind fun i => if i.size = 0 then none else some fl.offset
  | _ => none
def elT (P : Program) (T : TypeId) : Option (TypeId × Nat) := match P.underlying T with
  | some (.slice e) => (P.info? e).map fun i => (e, i.size)
  | _ => none
/-! Facts on types and functions, in structures (two of them that do not fit are told apart at once). -/
structure AggT (P : Program) (T m : Nat) : Prop where mk :: (out : aggT P T = some m)
structure ScT (P : Program) (T : Nat) : Prop where mk :: (out : scT P T = true)
structure ZeroT (P : Program) (T : Nat) (zs : List Value) : Prop where mk :: (out : zeroT P T = some zs)
structure SzT (P : Program) (T m : Nat) : Prop where mk :: (out : (P.info? T).map (·.size) = some m)
structure FldT (P : Program) (S f off : Nat) : Prop where mk :: (out : fldT P S f = some off)
structure ElT (P : Program) (T e m : Nat) : Prop where mk :: (out : elT P T = some (e, m))
structure Ent (P : Program) (f : Nat) : Prop where mk :: (out : ∀ args w, (callFunc f args).run P w = .ok (.enter f args) w)
def allOne : List Value → Bool
  | [] => true
  | v :: r => v.oneCell' && allOne r
theorem allOne_mem : ∀ {us : List Value}, allOne us = true → ∀ u ∈ us, u.oneCell' = true
  | [], _, u, hu => by cases hu
  | v :: r, h, u, hu => by
    unfold allOne at h
    rw [Bool.and_eq_true] at h
    rcases List.mem_cons.1 hu with rfl | hu
    · exact h.1
    · exact allOne_mem h.2 u hu
/-- Item i of its is i' in its'. -/
inductive SetAt (i i' : Item) : List Item → List Item → Prop
  | z {r} : SetAt i i' (i :: r) (i' :: r)
  | s {j r r'} : SetAt i i' r r' → SetAt i i' (j :: r) (j :: r')
theorem SetAt.at {i i' : Item} : ∀ {its its' : List Item}, SetAt i i' its its' → ∃ n, its[n]? = some i ∧ its' = its.set n i'
  | _, _, .z => ⟨0, rfl, rfl⟩
  | _, _, .s h => by
    obtain ⟨n, h1, h2⟩ := SetAt.at h
    exact ⟨n + 1, by simpa using h1, by simp [h2]⟩
/-- Item i taken out of its. -/
inductive OutAt (i : Item) : List Item → List Item → Prop
  | z {r} : OutAt i (i :: r) r
  | s {j r r'} : OutAt i r r' → OutAt i (j :: r) (j :: r')
theorem OutAt.at {i : Item} : ∀ {its its' : List Item}, OutAt i its its' → ∃ n, its[n]? = some i ∧ its' = its.eraseIdx n
  | _, _, .z => ⟨0, rfl, rfl⟩
  | _, _, .s h => by
    obtain ⟨n, h1, h2⟩ := OutAt.at h
    exact ⟨n + 1, by simpa using h1, by simp [h2]⟩
/-- Cell n of cs is v in cs'. -/
inductive PutAt (v : Value) : Nat → List Value → List Value → Prop
  | z {u r} : PutAt v 0 (u :: r) (v :: r)
  | s {n u r r'} : PutAt v n r r' → PutAt v (n + 1) (u :: r) (u :: r')
theorem PutAt.wr {v : Value} : ∀ {n : Nat} {cs cs' : List Value}, PutAt v n cs cs' → n + 1 ≤ cs.length ∧ cs' = cs.take n ++ ([v] ++ cs.drop (n + 1))
  | _, _, _, .z => ⟨by simp, by simp⟩
  | _, _, _, .s h => by
    obtain ⟨h1, h2⟩ := PutAt.wr h
    exact ⟨by simp; omega, by simp [h2]⟩
/-- Cells written from off on. -/
def wr (cs : List Value) (off : Nat) (us : List Value) : List Value := cs.take off ++ (us ++ cs.drop (off + us.length))

section
variable {P : Program} {w : World}
theorem run_zeroT {T : TypeId} {zs : List Value} (h : zeroT P T = some zs) : ∃ z, (zeroValue T).run P w = .ok z w ∧ z.cells.toList = zs := by
  unfold zeroT at h
  cases hi : P.info? T with
  | none => simp [hi] at h
  | some i =>
    cases hz : i.zero with
    | none => simp [hi, hz] at h
    | some z =>
      simp only [hi, Option.bind_some, hz, Option.map_some, Option.some.injEq] at h
      exact ⟨z, by simp [zeroValue, typeInfo, hi, hz], h⟩
theorem aggT_run {T : TypeId} {m : Nat} (h : aggT P T = some m) : (isAgg T).run P w = .ok true w ∧ (sizeOf T).run P w = .ok m w := by
  unfold aggT at h
  cases hu : P.underlying T with
  | none => simp [hu] at h
  | some d =>
    have hs : (P.info? T).map (·.size) = some m ∧ ((match d with | .struct _ | .array _ _ => true | _ => false) = true) := by
      cases d <;> simp_all
    obtain ⟨i, hi, rfl⟩ := Option.map_eq_some_iff.1 hs.1
    refine ⟨?_, by simp [sizeOf, typeInfo, hi]⟩
    unfold isAgg
    rw [Sem.run_bind, run_underlying hu w]
    have := hs.2
    cases d <;> simp_all
theorem scT_run {T : TypeId} (h : scT P T = true) : (isAgg T).run P w = .ok false w ∧ (sizeOf T).run P w = .ok 1 w := by
  unfold scT at h
  cases hu : P.underlying T with
  | none => simp [hu] at h
  | some d =>
    have hs : (P.info? T).map (·.size) = some 1 ∧ ((match d with | .struct _ | .array _ _ => true | _ => false) = false) := by
      cases d <;> simp_all
    obtain ⟨i, hi, hi1⟩ := Option.map_eq_some_iff.1 hs.1
    refine ⟨?_, by simp [sizeOf, typeInfo, hi, hi1]⟩
    unfold isAgg
    rw [Sem.run_bind, run_underlying hu w]
    have := hs.2
    cases d <;> simp_all
theorem run_load_agg {T : TypeId} {ad : Addr} {us : List Value} (h : aggT P T = some us.length) (hc : Cells w ad us) : (Instr.loadAt T (.pointer (some ad))).run P w = .ok (.agg us.toArray) w := by
  obtain ⟨h1, h2⟩ := aggT_run (w := w) h
  have hl : (loadCells ad us.length).run P w = .ok us.toArray w := run_loadCells_list (P := P) w ad us hc
  simp [Instr.loadAt, Instr.sureAddr, loadVar, h1, h2, hl]
theorem run_load_one {T : TypeId} {ad : Addr} {u : Value} (h : scT P T = true) (hc : w.cell? ad = some u) : (Instr.loadAt T (.pointer (some ad))).run P w = .ok u w := by
  obtain ⟨h1, h2⟩ := scT_run (w := w) h
  simp [Instr.loadAt, Instr.sureAddr, loadVar, h1, load, Sem.run, hc]
theorem run_fieldAt {S f off : Nat} {ad : Addr} (h : fldT P S f = some off) : (Instr.fieldAt S (.pointer (some ad)) f).run P w = .ok (.pointer (some (ad.add off))) w := by
  unfold fldT at h
  cases hu : P.underlying S with
  | none => simp [hu] at h
  | some d =>
    cases d <;> simp only [hu, reduceCtorEq] at h
    rename_i fs
    obtain ⟨fl, hf, h⟩ := Option.bind_eq_some_iff.1 h
    obtain ⟨i, hi, h⟩ := Option.bind_eq_some_iff.1 h
    have h0 : i.size ≠ 0 := fun e => by simp [e] at h
    rw [if_neg h0] at h
    obtain rfl := Option.some.inj h
    simp [Instr.fieldAt, run_underlying hu, hf, Instr.sureAddr, fieldPlace, sizeOf, typeInfo, hi, h0]
theorem run_indexAt {T e size len c : Nat} {ad : Addr} {k : IntKind} {i : Int} (h : elT P T = some (e, size)) (h0 : 0 ≤ i) (h1 : i < (len : Int)) : (Instr.indexAt T (.slice (some ad) len c) (.int k i)).run P w = .ok (.pointer (some (ad.add (i.toNat * size)))) w := by
  unfold elT at h
  cases hu : P.underlying T with
  | none => simp [hu] at h
  | some d =>
    cases d <;> simp [hu] at h
    rename_i e'
    obtain ⟨j, hj, rfl, rfl⟩ := h
    simp [Instr.indexAt, run_underlying hu, asIntOf, h0, h1, sizeOf, typeInfo, hj]
theorem storeCells_run {g T : Nat} : ∀ (us : List Value) (i : Nat) (ad : Addr) (cs : List Value) (w : World), ad.block = g → ad.spot = none → w.heap[g]? = some (.cells cs.toArray T (0, 0)) → ad.off + i + us.length ≤ cs.length → (∀ u ∈ us, u.oneCell' = true) →
    ∃ w', (storeCells ad us i).run P w = .ok () w' ∧ w'.heap[g]? = some (.cells (wr cs (ad.off + i) us).toArray T (0, 0)) ∧ w'.os = w.os ∧ w'.tape = w.tape ∧ w'.output = w.output ∧ w'.heap.size = w.heap.size ∧ ∀ k, k ≠ g → w'.heap[k]? = w.heap[k]?
  | [], i, ad, cs, w, hb, hs, hg, hl, h1 => ⟨w, by simp [storeCells], by simpa [wr] using hg, rfl, rfl, rfl, rfl, fun _ _ => rfl⟩
  | u :: r, i, ad, cs, w, hb, hs, hg, hl, h1 => by
    have hlt : ad.off + i < cs.length := by simp at hl; omega
    have hadd : ad.add i = ⟨g, ad.off + i, none⟩ := by
      unfold Addr.add
      split
      · rename_i h0; subst h0; cases ad; simp_all
      · cases ad; simp_all
    have hcell : w.cell? ⟨g, ad.off + i, none⟩ = some cs[ad.off + i] := by simp [World.cell?, hg, hlt]
    have hfro : w.frozen? ⟨g, ad.off + i, none⟩ = false := by simp [World.frozen?, hg]
    have hst : (store (ad.add i) u).run P w = .ok () (w.setCell ⟨g, ad.off + i, none⟩ u) := by
      rw [hadd, run_store P w _ u _ (h1 u (by simp)), hcell]
      simp [hfro]
    have hg' := blk_set hg (ad.off + i) u
    have hg'' : (w.setCell ⟨g, ad.off + i, none⟩ u).heap[g]? = some (.cells (cs.set (ad.off + i) u).toArray T (0, 0)) := by rw [hg']; simp
    obtain ⟨w', e1, e2, e3, e4, e5, e6, e7⟩ := storeCells_run r (i + 1) ad (cs.set (ad.off + i) u) _ hb hs hg'' (by simp at hl ⊢; omega) (fun x hx => h1 x (by simp [hx]))
    refine ⟨w', by simp only [storeCells, Sem.run_bind, hst, Result.andThen_ok, e1], ?_, e3, e4, e5, by rw [e6]; simp, fun k hk => (e7 k hk).trans (Below.heap_setCell w ⟨g, ad.off + i, none⟩ u k hk)⟩
    rw [e2]
    congr 3
    unfold wr
    rw [show ad.off + (i + 1) = (ad.off + i) + 1 by omega]
    generalize ad.off + i = m at hlt
    apply List.ext_getElem?
    intro k
    simp only [List.getElem?_append, List.length_take, List.length_set, List.length_cons, List.getElem?_drop, List.getElem?_take, List.getElem?_set]
    by_cases hk : k < m
    · simp [show min m cs.length = m by omega, show min (m + 1) cs.length = m + 1 by omega, hk, show k < m + 1 by omega, show ¬ m = k by omega]
    · by_cases hk2 : k = m
      · subst hk2
        simp [show min k cs.length = k by omega, show min (k + 1) cs.length = k + 1 by omega, hlt]
      · have h3 : ¬ k < m + 1 := by omega
        simp only [show min m cs.length = m by omega, show min (m + 1) cs.length = m + 1 by omega, if_neg hk, if_neg h3]
        rw [show k - m = (k - (m + 1)) + 1 by omega]
        simp only [List.getElem?_cons_succ]
        by_cases h4 : k - (m + 1) < r.length
        · simp [h4]
        · simp [h4, Nat.add_assoc, Nat.add_comm 1, show ¬ m = m + 1 + r.length + (k - (m + 1) - r.length) by omega, show m + (r.length + 1) + (k - (m + 1) + 1 - (r.length + 1)) = m + 1 + r.length + (k - (m + 1) - r.length) by omega]
end

section
variable {P : Program} {N : Nat} {B : Base} {L L' : Sl} {its its' : List Item} {ps ps' : List (World → Prop)} {Q : Exit → Act → World → Prop} {D : Dm} {k : Nat} {ops : Array Oper} {rest : List Oper} {o : Oper} {d T n m : Nat} {v v2 : Value} {b : Bool} {x y z : Operand} {cs zs us : List Value} {g off T' : Nat} {ad : Addr}
theorem Box_at {w : World} (h : WS B w its ps) (hn : Item.box g T' cs ∈ its) : w.heap[g]? = some (.cells cs.toArray T' (0, 0)) := by
  obtain ⟨_, S, h2, _, _⟩ := h
  obtain ⟨n, hn⟩ := List.mem_iff_getElem?.1 hn
  obtain ⟨A, g1, _⟩ := h2.focus hn
  exact g1.1
theorem Box_cells {w : World} (h : w.heap[g]? = some (.cells cs.toArray T' (0, 0))) (off : Nat) : Cells w ⟨g, off, none⟩ (cs.drop off) := by
  intro j u hu
  have : (⟨g, off, none⟩ : Addr).add j = ⟨g, off + j, none⟩ := by unfold Addr.add; split <;> simp_all
  rw [this, blk_cell h]
  simpa using hu
namespace Y
theorem loadA (hop : o.op = .load T x) (hx : ev L x = some (.pointer (some ⟨g, 0, none⟩))) (hT : AggT P T m) (hn : Item.box g T' cs ∈ its) (hl : Nat.beq cs.length m = true) : Yd P N B o (.agg cs.toArray) L its ps := .mk <| fun a w hf hW => by
  obtain rfl := Nat.eq_of_beq_eq_true hl
  have hc := Box_cells (Box_at hW hn) 0
  simp only [List.drop_zero] at hc
  unfold execOp; rw [hop]; simp [hf.ev hx, run_load_agg hT.out hc]
theorem load1 (hop : o.op = .load T x) (hx : ev L x = some (.pointer (some ⟨g, off, none⟩))) (hT : ScT P T) (hn : Item.box g T' cs ∈ its) (hv : cs[off]? = some v) : Yd P N B o v L its ps := .mk <| fun a w hf hW => by
  have hc := blk_cell (Box_at hW hn) off
  unfold execOp; rw [hop]; simp [hf.ev hx, run_load_one hT.out (hc.trans (by simpa using hv))]
/-- Out of cells that a fact tells. -/
theorem loadF (hop : o.op = .load T x) (hx : ev L x = some (.pointer (some ad))) (hT : AggT P T m) (hp : (fun w => Cells w ad us) ∈ ps) (hl : Nat.beq us.length m = true) : Yd P N B o (.agg us.toArray) L its ps := .mk <| fun a w hf hW => by
  obtain rfl := Nat.eq_of_beq_eq_true hl
  unfold execOp; rw [hop]; simp [hf.ev hx, run_load_agg hT.out (hW.fact hp)]
theorem loadG {ad' : Addr} (hop : o.op = .load T x) (hx : ev L x = some (.pointer (some ad'))) (hp : (fun w => Cells w ad us) ∈ ps) (hT : ScT P T) (m : Nat) (had : ad' = ad.add m) (hv : us[m]? = some v) : Yd P N B o v L its ps := .mk <| fun a w hf hW => by
  have hc : w.cell? ad' = some v := by rw [had]; exact hW.fact hp m v hv
  unfold execOp; rw [hop]; simp [hf.ev hx, run_load_one hT.out hc]
theorem fld {S f : Nat} (hop : o.op = .fieldAddr S x f) (hx : ev L x = some (.pointer (some ad))) (hT : FldT P S f off) : Yd P N B o (.pointer (some (ad.add off))) L its ps := .mk <| fun a w hf hW => by
  unfold execOp; rw [hop]; simp [hf.ev hx, run_fieldAt hT.out]
/-- The same in a block of the call's own. -/
theorem fldB {S f m : Nat} (hop : o.op = .fieldAddr S x f) (hx : ev L x = some (.pointer (some ⟨g, m, none⟩))) (hT : FldT P S f off) : Yd P N B o (.pointer (some ⟨g, m + off, none⟩)) L its ps := by
  have h := fld (P := P) (N := N) (B := B) (its := its) (ps := ps) hop hx hT
  have : (⟨g, m, none⟩ : Addr).add off = ⟨g, m + off, none⟩ := by unfold Addr.add; split <;> simp_all
  rwa [this] at h
theorem fld0 {S f : Nat} (hop : o.op = .fieldAddr S x f) (hx : ev L x = some (.pointer (some ⟨g, 0, none⟩))) (hT : FldT P S f off) : Yd P N B o (.pointer (some ⟨g, off, none⟩)) L its ps := by
  have h := fldB (P := P) (N := N) (B := B) (its := its) (ps := ps) hop hx hT
  rwa [Nat.zero_add] at h
theorem idx {e size len c : Nat} {k : IntKind} {i : Int} (hop : o.op = .indexAddr T x y) (hx : ev L x = some (.slice (some ad) len c)) (hy : ev L y = some (.int k i)) (hT : ElT P T e size) (h0 : 0 ≤ i) (h1 : i < (len : Int)) : Yd P N B o (.pointer (some (ad.add (i.toNat * size)))) L its ps := .mk <| fun a w hf hW => by
  unfold execOp; rw [hop]; simp [hf.ev hx, hf.ev hy, run_indexAt hT.out h0 h1]
end Y
theorem WS.alloc {w : World} (h : WS B w its ps) (T : Nat) (cs : Array Value) : WS B (w.alloc (.cells cs T)) (.box w.heap.size T cs.toList :: its) ps :=
  h.new (below_alloc (Below.refl _ _) _) (A := fun k => k = w.heap.size) ⟨by simpa using heap_alloc_new w (.cells cs T), fun k => Iff.rfl⟩ (fun k hk => by rw [hk]; exact Nat.le_refl _)
theorem Jl.alloc (hw : wants ops L o = some true) (hop : o.op = .alloc T) (hd : o.dst = some d) (hN : Nat.blt d N = true) (hz : ZeroT P T zs)
    (h : ∀ g, Jl P N B D (k + 1) ops Q rest ((d, .pointer (some ⟨g, 0, none⟩)) :: L) (Item.box g T zs :: its) ps) (hD : D.takes k = false := by rfl) : Jl P N B D k ops Q (o :: rest) L its ps :=
  Jl.e (fun g : Nat => .pointer (some ⟨g, 0, none⟩)) (fun g => Item.box g T zs :: its) (fun _ => ps) hw hd hN (fun a w hf hW => by
    obtain ⟨z, h1, h2⟩ := run_zeroT (w := w) hz.out
    refine ⟨w.heap.size, w.alloc (.cells z.cells T), ?_, fun _ => below_alloc (Below.refl _ _) _, ?_⟩
    · unfold execOp; rw [hop]; simp [Instr.alloc, h1, newVar, newRow]
    · have := hW.alloc T z.cells
      rwa [h2] at this) h hD
theorem Jl.box (hw : wants ops L o = some true) (hop : o.op = .box T x) (hd : o.dst = some d) (hN : Nat.blt d N = true) (hx : ev L x = some v) (hz : v.cells.toList = zs)
    (h : ∀ g, Jl P N B D (k + 1) ops Q rest ((d, .pointer (some ⟨g, 0, none⟩)) :: L) (Item.box g T zs :: its) ps) (hD : D.takes k = false := by rfl) : Jl P N B D k ops Q (o :: rest) L its ps :=
  Jl.e (fun g : Nat => .pointer (some ⟨g, 0, none⟩)) (fun g => Item.box g T zs :: its) (fun _ => ps) hw hd hN (fun a w hf hW => by
    refine ⟨w.heap.size, w.alloc (.cells v.cells T), ?_, fun _ => below_alloc (Below.refl _ _) _, ?_⟩
    · unfold execOp; rw [hop]; simp [Instr.box, newVar, newRow, hf.ev hx]
    · have := hW.alloc T v.cells
      rwa [hz] at this) h hD
theorem store_run {o : Oper} {a : Act} {w : World} (hop : o.op = .store T x y) (hx : a.eval x = .pointer (some ⟨g, off, none⟩)) (hy : a.eval y = v) (hu : v.cells.toList = us) (hT : (P.info? T).map (·.size) = some us.length) (hg : w.heap[g]? = some (.cells cs.toArray T' (0, 0))) (hl : off + us.length ≤ cs.length) (h1 : ∀ u ∈ us, u.oneCell' = true) :
    ∃ w', (execOp a.eval o).run P w = .ok .skip w' ∧ w'.heap[g]? = some (.cells (wr cs off us).toArray T' (0, 0)) ∧ Aft (fun k => k = g) w w' := by
  obtain ⟨w', e1, e2, e3, e4, e5, e6, e7⟩ := storeCells_run (P := P) us 0 ⟨g, off, none⟩ cs w rfl rfl hg (by simpa using hl) h1
  refine ⟨w', ?_, e2, e3, e4, e5, by omega, fun k _ hk => e7 k hk⟩
  unfold execOp; rw [hop]
  obtain ⟨i, hi, hi2⟩ := Option.map_eq_some_iff.1 hT
  have hsz : v.cells.size = us.length := by rw [← hu]; simp
  simp only [hx, hy]
  simp [Instr.storeAt, Instr.sureAddr, storeVar, sizeOf, typeInfo, hi, hi2, hsz, hu, e1]
/-- A whole record is stored into its block. -/
theorem Jl.storeA (hw : wants ops L o = some true) (hop : o.op = .store T x y) (hd : o.dst = none) (hx : ev L x = some (.pointer (some ⟨g, 0, none⟩))) (hy : ev L y = some (.agg us.toArray)) (hT : SzT P T us.length) (hn : SetAt (.box g T' cs) (.box g T' us) its its') (hl : Nat.beq us.length cs.length = true) (h1 : allOne us = true)
    (h : Jl P N B D (k + 1) ops Q rest L its' ps) (hD : D.takes k = false := by rfl) (hE : D.needs k = false := by rfl) : Jl P N B D k ops Q (o :: rest) L its ps :=
  Jl.un its' hw hd (fun a w hf hW => by
    obtain ⟨n, hn0, rfl⟩ := hn.at
    have hg := Box_at hW (List.mem_of_getElem? hn0)
    obtain ⟨w', e1, e2, e3⟩ := store_run (P := P) (us := us) hop (hf.ev hx) (hf.ev hy) (by simp [Value.cells]) hT.out hg (by have := Nat.eq_of_beq_eq_true hl; omega) (allOne_mem h1)
    have e : wr cs 0 us = us := by unfold wr; simp [Nat.eq_of_beq_eq_true hl]
    rw [e] at e2
    exact ⟨w', e1, hW.upd hn0 (fun A hA hA0 => ⟨A, ⟨e2, hA.2⟩, fun k hk _ => hk, e3.os, e3.tape, e3.output, e3.size, fun k hk hn' => e3.block k hk (fun e => hn' ((hA.2 k).2 e))⟩)⟩) h hD hE
/-- One cell is stored into a block of the call's own. -/
theorem Jl.store1 (hw : wants ops L o = some true) (hop : o.op = .store T x y) (hd : o.dst = none) (hx : ev L x = some (.pointer (some ⟨g, off, none⟩))) (hy : ev L y = some v) (hT : SzT P T 1) (h1 : v.oneCell' = true) {cs' : List Value} (hb : Item.box g T' cs ∈ its) (hc : PutAt v off cs cs') (hn : SetAt (.box g T' cs) (.box g T' cs') its its')
    (h : Jl P N B D (k + 1) ops Q rest L its' ps) (hD : D.takes k = false := by rfl) (hE : D.needs k = false := by rfl) : Jl P N B D k ops Q (o :: rest) L its ps :=
  Jl.un its' hw hd (fun a w hf hW => by
    obtain ⟨n, hn0, rfl⟩ := hn.at
    obtain ⟨hl, rfl⟩ := hc.wr
    have hg := Box_at hW (List.mem_of_getElem? hn0)
    have hv : v.cells.toList = [v] := by cases v <;> first | rfl | cases h1
    obtain ⟨w', e1, e2, e3⟩ := store_run (P := P) (us := [v]) hop (hf.ev hx) (hf.ev hy) hv hT.out hg (by simpa using hl) (by simpa using h1)
    exact ⟨w', e1, hW.upd hn0 (fun A hA hA0 => ⟨A, ⟨e2, hA.2⟩, fun k hk _ => hk, e3.os, e3.tape, e3.output, e3.size, fun k hk hn' => e3.block k hk (fun e => hn' ((hA.2 k).2 e))⟩)⟩) h hD hE
/-- A call by its contract. -/
theorem Jl.call {ι : Type} (I : ι → Prop) (val : ι → Value) (its' : ι → List Item) (ps' : ι → List (World → Prop)) {f : FuncId} {args : Array Operand} {ts : Array TypeId} {fi ca : Array Value} {vals : List Value} (hw : wants ops L o = some true) (hop : o.op = .call { callee := .value x, args := args, argTypes := ts }) (hd : o.dst = some d) (hN : Nat.blt d N = true)
    (hx : ev L x = some (.func (.func f) fi ca)) (he : Ent P f) (hargs : evs L args.toList = some vals)
    (hc : ∀ w, WS B w its ps → Calls P f (fi ++ vals.toArray ++ ca) w fun e w' => ∃ i, e = .returned (val i) ∧ I i ∧ WS B w' (its' i) (ps' i) ∧ (D.needs k = true → Below w.heap.size w w'))
    (h : ∀ i, I i → Jl P N B D (k + 1) ops Q rest ((d, val i) :: L) (its' i) (ps' i)) (hD : D.takes k = false := by rfl) : Jl P N B D k ops Q (o :: rest) L its ps := by
  refine ⟨?_⟩
  intro a w hf hW
  unfold runG
  rw [if_neg (by rw [hD]; simp), if_pos (hf.wants hw)]
  have hl := hf.evs hargs
  have ha : args.map a.eval = vals.toArray := by
    apply Array.toList_inj.1
    rw [Array.toList_map]; exact hl
  have hrun : (execOp a.eval o).run P w = .ok (.enter f (fi ++ vals.toArray ++ ca)) w := by
    unfold execOp; rw [hop]
    simp [resolve, hf.ev hx, Deferred.ofValue, invoke, ha, he.out]
  unfold Oper.wp
  rw [hrun, Oper.upon_enter]
  refine (hc w hW).mono ?_
  rintro e w' ⟨i, rfl, hi, hW', hb⟩
  refine ⟨hb, ?_⟩
  rw [hd]
  exact h i hi _ _ (hf.put hN _) hW'
/-- A call of a function by its name, that only makes; one answer. -/
theorem Jl.call1 {f : FuncId} {args : Array Operand} {ts : Array TypeId} {vals : List Value} (hw : wants ops L o = some true) (hop : o.op = .call { callee := .value (.func f), args := args, argTypes := ts }) (hd : o.dst = some d) (hN : Nat.blt d N = true)
    (he : Ent P f) (hargs : evs L args.toList = some vals)
    (hc : ∀ w, WS B w its ps → Calls P f vals.toArray w fun e w' => e = .returned v ∧ Below w.heap.size w w')
    (h : Jl P N B D (k + 1) ops Q rest ((d, v) :: L) its ps) (hD : D.takes k = false := by rfl) : Jl P N B D k ops Q (o :: rest) L its ps :=
  Jl.call (ι := Unit) (fun _ => True) (fun _ => v) (fun _ => its) (fun _ => ps) hw hop hd hN rfl he hargs (fun w hW => by
    simp only [Array.empty_append, Array.append_empty]
    exact (hc w hW).mono (fun e w' hh => ⟨(), hh.1, trivial, hW.call hh.2, fun _ => hh.2⟩)) (fun _ _ => h) hD
end
end Go.Proofs.YthmgiagecgkmiaaDoorW.SL
