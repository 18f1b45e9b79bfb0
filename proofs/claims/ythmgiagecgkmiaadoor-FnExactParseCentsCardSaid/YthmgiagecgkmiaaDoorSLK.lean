import Derived.Test.YthmgiagecgkmiaaDoorSLM
/-! Rows: what calls hand back, what is read, what is written by a call. -/
namespace Go.Proofs.YthmgiagecgkmiaaDoorW.SL
open Go Go.RowKit Go.Proofs.YthmgiagecgkmiaaDoorW.PrintWords
set_option linter.unusedSimpArgs false
set_option linter.unusedVariables false

section
variable {α : Type} {dk : Kd α} {e b : Nat} {B : Base} {w w' : World} {its its' : List Item} {ps ps' : List (World → Prop)} {xs : List α} {v : Value} {ok : Nat → Prop}
/-- A row that a call has made. -/
theorem WS.rowR (h : WS B w its ps) (hb : Below w.heap.size w w') (hr : dk.R e w' w.heap.size ok v xs) (hB : b ≤ w.heap.size) : WS B w' (.row dk e b v xs :: its) ps :=
  h.new hb (A := fun k => w.heap.size ≤ k ∧ k < w'.heap.size) ⟨Kd.R_lower (Kd.R_mono (Kd.R_bound hr) (fun k hk => ⟨hk.2.1, hk.2.2.1⟩)) hB, fun k hk => hk.2⟩ (fun k hk => hk.1)
theorem WS.rowC {A : Option Addr} {n c : Nat} (h : WS B w its ps) (hi : Item.row dk e b (.slice A n c) xs ∈ its) : dk.C w A xs.length xs := by
  obtain ⟨S, hS⟩ := h.item hi
  exact (Kd.R_reads' hS.1).2.2
theorem WS.rowCap {A : Option Addr} {n c : Nat} (h : WS B w its ps) (hi : Item.row dk e b (.slice A n c) xs ∈ its) : n = xs.length ∧ xs.length ≤ c := by
  obtain ⟨S, hS⟩ := h.item hi
  have := Kd.R_reads' hS.1
  omega
/-- What was there and lies in nobody's hands any more. -/
def Dead : ItemS where
  p w S := ∀ k, S k → k < w.heap.size
  lt h hk := h _ hk
  loc := by
    intro w w' S h hm k hk
    have h1 := h k hk
    have h2 := hm k hk
    rcases Nat.lt_or_ge k w'.heap.size with h3 | h3
    · exact h3
    · rw [Array.getElem?_eq_none h3, Array.getElem?_eq_getElem h1] at h2
      cases h2
theorem Aft.of_kept {w0 : World} {S : Nat → Prop} (hk : Kept w w' S) (h0 : Below w0.heap.size w0 w) (h1 : Below w0.heap.size w0 w') : Aft S w w' := ⟨h1.os.trans h0.os.symm, h1.tape.trans h0.tape.symm, h1.output.trans h0.output.symm, hk.1, fun k hk' hn => hk.2 k hk' hn⟩
/-- A world without memory, ahead of w. -/
def bare (w : World) : World := { w with heap := #[] }
theorem bare_below (w : World) : Below (bare w).heap.size (bare w) w := ⟨rfl, rfl, rfl, by simp [bare], fun k hk => by simp [bare] at hk⟩
theorem bare_size (w : World) : (bare w).heap.size = 0 := by simp [bare]
end

section
variable {P : Program} {N : Nat} {B : Base} {L L' : Sl} {its its' : List Item} {ps ps' : List (World → Prop)} {Q : Exit → Act → World → Prop} {D : Dm} {k : Nat} {ops : Array Oper} {rest : List Oper} {o : Oper} {d T n m : Nat} {v v2 : Value} {x y z : Operand} {α β : Type} {dk : Kd α} {dl : Kd β} {e b : Nat}
/-- A call that hands back one row of its own (V: the whole answer around it). -/
theorem Jl.callR (b : Nat) (V : Value → Value) {xs : List α} {f : FuncId} {args : Array Operand} {ts : Array TypeId} {vals : List Value} (hw : wants ops L o = some true) (hop : o.op = .call { callee := .value (.func f), args := args, argTypes := ts }) (hd : o.dst = some d) (hN : Nat.blt d N = true)
    (he : Ent P f) (hargs : evs L args.toList = some vals)
    (hc : ∀ w, WS B w its ps → Calls P f vals.toArray w fun e' w' => ∃ v, e' = .returned (V v) ∧ dk.R e w' w.heap.size (fun _ => True) v xs ∧ Below w.heap.size w w')
    (h : ∀ A c, xs.length ≤ c → Jl P N B D (k + 1) ops Q rest ((d, V (.slice A xs.length c)) :: L) (.row dk e 0 (.slice A xs.length c) xs :: its) ps) (hD : D.takes k = false := by rfl) : Jl P N B D k ops Q (o :: rest) L its ps :=
  Jl.call (ι := Option Addr × Nat) (fun i => xs.length ≤ i.2) (fun i => V (.slice i.1 xs.length i.2)) (fun i => .row dk e 0 (.slice i.1 xs.length i.2) xs :: its) (fun _ => ps) hw hop hd hN rfl he hargs (fun w hW => by
    simp only [Array.empty_append, Array.append_empty]
    refine (hc w hW).mono ?_
    rintro e' w' ⟨v, rfl, hr, hb⟩
    obtain ⟨A, c, rfl, hl, _⟩ := Kd.R_reads hr
    exact ⟨(A, c), rfl, hl, hW.rowR hb hr (Nat.zero_le _), fun _ => hb⟩) (fun i hi => h i.1 i.2 hi) hD
/-- A call that writes what it is handed. -/
theorem Jl.callM (i i' : Item) {f : FuncId} {args : Array Operand} {ts : Array TypeId} {vals : List Value} (hw : wants ops L o = some true) (hop : o.op = .call { callee := .value (.func f), args := args, argTypes := ts }) (hd : o.dst = some d) (hN : Nat.blt d N = true)
    (he : Ent P f) (hargs : evs L args.toList = some vals) (hn : SetAt i i' its its')
    (hc : ∀ w A, WS B w its ps → i.p w A → Calls P f vals.toArray w fun e' w' => e' = .returned v ∧ ∃ A', i'.p w' A' ∧ (∀ k, A' k → k < w.heap.size → A k) ∧ Aft A w w')
    (h : Jl P N B D (k + 1) ops Q rest ((d, v) :: L) its' ps) (hD : D.takes k = false := by rfl) (hE : D.needs k = false := by rfl) : Jl P N B D k ops Q (o :: rest) L its ps := by
  obtain ⟨n, hn0, rfl⟩ := hn.at
  refine ⟨?_⟩
  intro a w hf hW
  obtain ⟨_, S, h2, h3, h4⟩ := id hW
  unfold runG
  rw [if_neg (by rw [hD]; simp), if_pos (hf.wants hw)]
  have hl := hf.evs hargs
  have ha : args.map a.eval = vals.toArray := by
    apply Array.toList_inj.1
    rw [Array.toList_map]; exact hl
  have hrun : (execOp a.eval o).run P w = .ok (.enter f vals.toArray) w := by
    unfold execOp; rw [hop]
    simp [resolve, Act.eval, Deferred.ofValue, invoke, ha, he.out]
  unfold Oper.wp
  rw [hrun, Oper.upon_enter]
  obtain ⟨A, g1, g2, g3⟩ := h2.focus hn0
  refine (hc w A hW g1).mono ?_
  rintro e' w' ⟨rfl, A', hA', hsub, haft⟩
  refine ⟨fun h' => (by rw [hE] at h'; cases h'), ?_⟩
  rw [hd]
  refine h _ _ (hf.put hN _) ⟨hW.aft.trans haft (fun k hk hlt => (h3 k (g2 k hk)).resolve_right (by omega)), _, g3 w' i' A' hA' haft.size (fun k hk => ?_) (fun k hs hn => haft.block k (h2.lt k hs) hn), ?_, fun p hp => (h4 p hp).step ⟨haft.os, haft.tape, haft.output, haft.size, fun k hk hn => haft.block k hk (fun ha => hn (g2 k ha))⟩ ?_⟩
  · by_cases hlt : k < w.heap.size
    · exact .inr (hsub k hk hlt)
    · exact .inl (fun hs => hlt (h2.lt k hs))
  · rintro k (hk | hk)
    · by_cases hlt : k < w.heap.size
      · exact h3 k (g2 k (hsub k hk hlt))
      · exact .inr (Nat.le_trans hW.size (by omega))
    · exact h3 k hk.1
  · rintro k (hk | hk) hlt
    · exact g2 k (hsub k hk hlt)
    · exact hk.1
end
section
variable {α β : Type} {dk : Kd α} {di : Kd β} {e ei b g m cap : Nat} {B : Base} {w w' : World} {its its' : List Item} {ps ps' : List (World → Prop)} {xs : List α} {ys ys' : List β} {v u : Value} {i : Int} {c : List Value} {x' : α}
/-- Element i of a row, and what it leads to, by themselves. -/
theorem WS.lend (h : WS B w its ps) (F : Value → List Value) (z : α) {n : Nat} (hn : its[n]? = some (.rowS dk e b (.slice (some ⟨g, 0, none⟩) m cap) xs)) (h0 : 0 ≤ i) (h1 : i < (m : Int))
    (hM : ∀ (w : World) ok cs, dk.M w b ok (xs.getD i.toNat z) cs → ∃ u, cs = F u ∧ di.R ei w b ok u ys) :
    ∃ u, WS B w (.row di ei b u ys :: its.set n (.lent dk e b (.slice (some ⟨g, 0, none⟩) m cap) xs i (F u) u)) ps := by
  obtain ⟨q1, S, q2, q3, q4⟩ := h
  obtain ⟨A, g1, g2, g3⟩ := q2.two hn
  obtain ⟨oki, cs, hcl, hMM, hcc, hok, hH⟩ := Kd.S_lend g1.1 z i h0 h1
  obtain ⟨u, rfl, hR⟩ := hM _ _ _ hMM
  have hlt : ∀ k, oki k → k < w.heap.size := fun k hk => g1.2 k (hok k hk).1
  refine ⟨u, q1, S, g3 _ _ (fun k => (A k ∧ ¬ oki k) ∧ k < w.heap.size) oki ⟨A, oki, hH, hR.1, fun _ => Iff.rfl, hlt⟩ ⟨hR, hlt⟩ (fun k => ?_) (fun k hk h' => hk.1.2 h'), q3, q4⟩
  constructor
  · intro ha
    by_cases ho : oki k
    · exact .inr ho
    · exact .inl ⟨⟨ha, ho⟩, g1.2 k ha⟩
  · rintro (hk | hk)
    · exact hk.1.1
    · exact (hok k hk).1
/-- The element back in its row: it is x' now. -/
theorem WS.back {n : Nat} (h : WS B w (.row di ei b u ys' :: its) ps) (hn : its[n]? = some (.lent dk e b v xs i c u)) (hE : di.E = [])
    (hM : ∀ (w : World) ok, di.R ei w b ok u ys' → dk.M w b ok x' c) : WS B w (its.set n (.rowS dk e b v (xs.set i.toNat x'))) ps := by
  obtain ⟨q1, S, q2, q3, q4⟩ := h
  refine ⟨q1, S, q2.one hn (fun A1 A2 h1 h2 h3 => ?_), q3, q4⟩
  obtain ⟨ok, oki, g1, g2, g3, g4⟩ := h1
  obtain ⟨r1, r2⟩ := h2
  obtain ⟨_, f, hR⟩ := g1
  have hH : Kd.H dk e w b (fun k => (ok k ∧ ¬ oki k) ∨ some k = u.ownBlock) v xs i (fun k => some k = u.ownBlock) c :=
    ⟨fun k hk => .inr hk, f, Kd.R_mono hR (fun k hk => ⟨.inl hk, fun he => hk.2 (g2 k he.symm)⟩)⟩
  have hS := Kd.S_bound (Kd.H_back hH (hM w _ (Kd.R_tight hE r1)) (fun k hk => hk))
  refine ⟨Kd.S_mono hS (fun k hk => ?_), fun k hk => ?_⟩
  · rcases hk.1 with h | h
    · exact .inl ((g3 k).2 ⟨h, hk.2.2.1⟩)
    · exact .inr (r1.1 k h.symm)
  · rcases hk with h | h
    · exact ((g3 k).1 h).2
    · exact r2 k h
end
section
variable {P : Program} {w : World} {ad : Addr} {v u0 : Value} {T : Nat}
theorem run_store1 (hT : (P.info? T).map (·.size) = some 1) (hc : w.cell? ad = some u0) (hf : w.frozen? ad = false) (h1 : v.oneCell' = true) : (Instr.storeAt T (.pointer (some ad)) v).run P w = .ok () (w.setCell ad v) := by
  obtain ⟨i, hi, hi2⟩ := Option.map_eq_some_iff.1 hT
  have hv : v.cells = #[v] := by cases v <;> first | rfl | cases h1
  have hst : (store ad v).run P w = .ok () (w.setCell ad v) := by
    rw [run_store P w _ v _ h1, hc]
    simp [hf]
  simp [Instr.storeAt, Instr.sureAddr, storeVar, sizeOf, typeInfo, hi, hi2, hv, storeCells, Addr.add, hst]
end
section
variable {P : Program} {N : Nat} {B : Base} {L L' : Sl} {its its' : List Item} {ps ps' : List (World → Prop)} {Q : Exit → Act → World → Prop} {D : Dm} {k : Nat} {ops : Array Oper} {rest : List Oper} {o : Oper} {d T n m off j g cap : Nat} {v v2 u rv : Value} {x y z : Operand} {α β : Type} {dk : Kd α} {e b : Nat} {xs : List α} {i : Int} {c c' : List Value}
namespace Y
/-- A cell of the element that is lent. -/
theorem loadL (hop : o.op = .load T x) (hx : ev L x = some (.pointer (some ⟨g, off, none⟩))) (hT : ScT P T) (hn : Item.lent dk e b (.slice (some ⟨g, 0, none⟩) m cap) xs i c u ∈ its) (h0 : 0 ≤ i) (h1 : i < (m : Int)) (j : Nat) (hj : off = i.toNat * dk.sz + j) (hv : c[j]? = some v) : Yd P N B o v L its ps := .mk <| fun a w hf hW => by
  obtain ⟨S, ok, oki, hH, _⟩ := hW.item hn
  have hc := (Kd.H_at hH h0 h1).1 j v hv
  rw [← hj] at hc
  unfold execOp; rw [hop]; simp [hf.ev hx, run_load_one hT.out hc]
/-- A cell of an element of a row of one's own. -/
theorem loadR (zz : α) (hop : o.op = .load T x) (hx : ev L x = some (.pointer (some ⟨g, off, none⟩))) (hT : ScT P T) (hn : Item.row dk e b (.slice (some ⟨g, 0, none⟩) m cap) xs ∈ its) (i : Int) (h0 : 0 ≤ i) (h1 : i < (m : Int)) (j : Nat) (hj : off = i.toNat * dk.sz + j) (hv : ∀ (w : World) ok cs, dk.M w b ok (xs.getD i.toNat zz) cs → cs[j]? = some v) : Yd P N B o v L its ps := .mk <| fun a w hf hW => by
  obtain ⟨S, hR, _⟩ := hW.item hn
  obtain ⟨cs, hcl, hM, hcc, _⟩ := Kd.R_elem hR zz i h0 h1
  have hc := hcc j v (hv _ _ _ hM)
  rw [← hj] at hc
  unfold execOp; rw [hop]; simp [hf.ev hx, run_load_one hT.out hc]
/-- A whole element of a row of one's own. -/
theorem loadRA (zz : α) (hop : o.op = .load T x) (hx : ev L x = some (.pointer (some ⟨g, off, none⟩))) {k : Nat} (hT : AggT P T k) (hn : Item.row dk e b (.slice (some ⟨g, 0, none⟩) m cap) xs ∈ its) (i : Int) (h0 : 0 ≤ i) (h1 : i < (m : Int)) (hj : off = i.toNat * dk.sz) {us : List Value} (hk : Nat.beq us.length k = true) (hv : ∀ (w : World) ok cs, dk.M w b ok (xs.getD i.toNat zz) cs → cs = us) : Yd P N B o (.agg us.toArray) L its ps := .mk <| fun a w hf hW => by
  obtain ⟨S, hR, _⟩ := hW.item hn
  obtain ⟨cs, hcl, hM, hcc, _⟩ := Kd.R_elem hR zz i h0 h1
  obtain rfl := hv _ _ _ hM
  obtain rfl := Nat.eq_of_beq_eq_true hk
  have hC : Cells w ⟨g, off, none⟩ cs := fun j u hu => by
    have : (⟨g, off, none⟩ : Addr).add j = ⟨g, off + j, none⟩ := by unfold Addr.add; split <;> simp_all
    rw [this, hj]
    exact hcc j u hu
  unfold execOp; rw [hop]; simp [hf.ev hx, run_load_agg hT.out hC]
/-- An index into a row that lies at the head of its block. -/
theorem idx0 {size len cc e' : Nat} {k : IntKind} {i : Int} (hop : o.op = .indexAddr T x y) (hx : ev L x = some (.slice (some ⟨g, 0, none⟩) len cc)) (hy : ev L y = some (.int k i)) (hT : ElT P T e' size) (h0 : 0 ≤ i) (h1 : i < (len : Int)) : Yd P N B o (.pointer (some ⟨g, i.toNat * size, none⟩)) L its ps := by
  have h := idx (P := P) (N := N) (B := B) (its := its) (ps := ps) hop hx hy hT h0 h1
  have e : (⟨g, 0, none⟩ : Addr).add (i.toNat * size) = ⟨g, i.toNat * size, none⟩ := by unfold Addr.add; split <;> simp_all
  rwa [e] at h
end Y
/-- A cell of the element that is lent is written. -/
theorem Jl.storeL (hw : wants ops L o = some true) (hop : o.op = .store T x y) (hd : o.dst = none) (hx : ev L x = some (.pointer (some ⟨g, off, none⟩))) (hy : ev L y = some v) (hT : SzT P T 1) (h1 : v.oneCell' = true) (hb : Item.lent dk e b (.slice (some ⟨g, 0, none⟩) m cap) xs i c u ∈ its) (h0 : 0 ≤ i) (hi : i < (m : Int)) (j : Nat) (hj : off = i.toNat * dk.sz + j) (hjs : j < dk.sz) (hc : PutAt v j c c') (hn : SetAt (.lent dk e b (.slice (some ⟨g, 0, none⟩) m cap) xs i c u) (.lent dk e b (.slice (some ⟨g, 0, none⟩) m cap) xs i c' u) its its')
    (h : Jl P N B D (k + 1) ops Q rest L its' ps) (hD : D.takes k = false := by rfl) (hE : D.needs k = false := by rfl) : Jl P N B D k ops Q (o :: rest) L its ps :=
  Jl.un its' hw hd (fun a w hf hW => by
    obtain ⟨n, hn0, rfl⟩ := hn.at
    obtain ⟨hl, rfl⟩ := hc.wr
    obtain ⟨S, ok, oki, hH, _⟩ := hW.item hb
    obtain ⟨hcc, hfr⟩ := Kd.H_at hH h0 hi
    have hcell := hcc j _ (List.getElem?_eq_getElem (by omega : j < c.length))
    have hfz := hfr j
    rw [← hj] at hcell hfz
    refine ⟨w.setCell ⟨g, off, none⟩ v, by unfold execOp; rw [hop]; simp [hf.ev hx, hf.ev hy, run_store1 hT.out hcell hfz h1], hW.upd hn0 (fun A hA _ => ?_)⟩
    obtain ⟨ok2, oki2, g1, g2, g3, g4⟩ := hA
    have hseg := Kd.H_seg g1 h0 hi (seg := [v]) (j := j) (by simp; omega) (by simpa using h1)
    rw [← hj] at hseg
    have hgA : A g := by
      obtain ⟨_, f, hR⟩ := g1
      exact (g3 g).2 ⟨hR.1 g (by simp [Value.ownBlock]), World.block_lt_of_cell? w _ hcell⟩
    refine ⟨A, ⟨ok2, oki2, ?_, g2, by simpa using g3, by simpa using g4⟩, fun k hk _ => hk, rfl, rfl, rfl, by simp, fun k hk hn' => Below.heap_setCell w ⟨g, off, none⟩ v k (fun e => hn' (e ▸ hgA))⟩
    simpa [World.setCells, List.append_assoc] using hseg.1) h hD hE
/-- A cell of an element of a row of one's own is written. -/
theorem Jl.storeR (zz : α) {x' : α} {xs' : List α} (hw : wants ops L o = some true) (hop : o.op = .store T x y) (hd : o.dst = none) (hx : ev L x = some (.pointer (some ⟨g, off, none⟩))) (hy : ev L y = some v) (hT : SzT P T 1) (h1 : v.oneCell' = true) (hb : Item.row dk e b (.slice (some ⟨g, 0, none⟩) m cap) xs ∈ its) (i : Int) (h0 : 0 ≤ i) (hi : i < (m : Int)) (j : Nat) (hj : off = i.toNat * dk.sz + j) (hjs : j < dk.sz)
    (hM : ∀ (w : World) ok cs, dk.M w b ok (xs.getD i.toNat zz) cs → dk.M w b ok x' (cs.take j ++ ([v] ++ cs.drop (j + 1)))) (hxs : xs.set i.toNat x' = xs') (hn : SetAt (.row dk e b (.slice (some ⟨g, 0, none⟩) m cap) xs) (.row dk e b (.slice (some ⟨g, 0, none⟩) m cap) xs') its its')
    (h : Jl P N B D (k + 1) ops Q rest L its' ps) (hD : D.takes k = false := by rfl) (hE : D.needs k = false := by rfl) : Jl P N B D k ops Q (o :: rest) L its ps :=
  Jl.un its' hw hd (fun a w hf hW => by
    subst hxs
    obtain ⟨n, hn0, rfl⟩ := hn.at
    obtain ⟨S, hR, _⟩ := hW.item hb
    obtain ⟨cs, hcl, _, hcc, hfr⟩ := Kd.R_elem hR zz i h0 hi
    have hcell := hcc j _ (List.getElem?_eq_getElem (by omega : j < cs.length))
    have hfz := hfr j
    rw [← hj] at hcell hfz
    refine ⟨w.setCell ⟨g, off, none⟩ v, by unfold execOp; rw [hop]; simp [hf.ev hx, hf.ev hy, run_store1 hT.out hcell hfz h1], hW.upd hn0 (fun A hA _ => ?_)⟩
    obtain ⟨cs2, hcl2, hM2, hcc2, _⟩ := Kd.R_elem hA.1 zz i h0 hi
    have hseg := Kd.R_seg hA.1 i h0 hi (c := cs2) (seg := [v]) (j := j) hcl2 hcc2 (by simp; omega) (by simpa [List.append_assoc] using hM _ _ _ hM2) (fun k hk => hk)
    rw [← hj] at hseg
    have hgA : A g := hA.1.1 g (by simp [Value.ownBlock])
    exact ⟨A, ⟨by simpa [World.setCells] using hseg.1, fun k hk => by simpa using hA.2 k hk⟩, fun k hk _ => hk, rfl, rfl, rfl, by simp, fun k hk hn' => Below.heap_setCell w ⟨g, off, none⟩ v k (fun e => hn' (e ▸ hgA))⟩) h hD hE
end
end Go.Proofs.YthmgiagecgkmiaaDoorW.SL
