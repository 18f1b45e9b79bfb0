import Derived.Test.YtembbdhhpblapaaSLX
import Derived.Test.YtembbdhhpblapaaSLV
import Derived.Test.YtembbdhhpblapaaSLA
/-! Rows of rows of ints: built row by row, read, handed back. -/
namespace Go.Proofs.YtembbdhhpblapaaW.SL
open Go Go.RowKit Go.Proofs.YtembbdhhpblapaaW.PrintWords
set_option linter.unusedSimpArgs false
set_option linter.unusedVariables false
abbrev KJ : Kd Int := Kd.int .i64
abbrev K1 : Kd (List Value) := Kd.raw 1
def cell1 (v : Value) : List Value := [v]
theorem map_cell1 (vs : List Value) (u : Value) : vs.map cell1 ++ [cell1 u] = (vs ++ [u]).map cell1 := by rw [List.map_append]; rfl
/-- Rows of ints, each in blocks from b on. -/
structure EV (eI b : Nat) (vs : List Value) (xs : List (List Int)) (W : World) : Prop where
  len : vs.length = xs.length
  el : ∀ (j : Nat) (x : List Int) (u : Value), xs[j]? = some x → vs[j]? = some u → KJ.R eI W 0 (fun k => b ≤ k) u x
/-- The same, and the row that holds them. -/
structure GV (eS eI b : Nat) (v : Value) (vs : List Value) (xs : List (List Int)) (W : World) : Prop where
  row : K1.R eS W 0 (fun k => b ≤ k) v (vs.map cell1)
  els : EV eI b vs xs W
section
variable {eS eI b : Nat} {v u : Value} {vs : List Value} {xs : List (List Int)} {x : List Int} {w W : World}
theorem EV.move (h : EV eI b vs xs w) (hm : ∀ k, b ≤ k → k < w.heap.size → W.heap[k]? = w.heap[k]?) : EV eI b vs xs W := ⟨h.len, fun j x u hx hu => Kd.R_step (h.el j x u hx hu) hm⟩
theorem GV.move (h : GV eS eI b v vs xs w) (hm : ∀ k, b ≤ k → k < w.heap.size → W.heap[k]? = w.heap[k]?) : GV eS eI b v vs xs W := ⟨Kd.R_step h.row hm, h.els.move hm⟩
theorem EV.weaken {b' : Nat} (h : EV eI b vs xs w) (hb : b' ≤ b) : EV eI b' vs xs w := ⟨h.len, fun j x u hx hu => Kd.R_mono (h.el j x u hx hu) (fun k hk => Nat.le_trans hb hk)⟩
theorem GV.weaken {b' : Nat} (h : GV eS eI b v vs xs w) (hb : b' ≤ b) : GV eS eI b' v vs xs w := ⟨Kd.R_mono h.row (fun k hk => Nat.le_trans hb hk), h.els.weaken hb⟩
theorem EV.nil : EV eI b [] [] W := ⟨rfl, fun j x u hx => by simp at hx⟩
theorem EV.push (h : EV eI b vs xs W) (hR : KJ.R eI W 0 (fun k => b ≤ k) u x) : EV eI b (vs ++ [u]) (xs ++ [x]) W := by
  refine ⟨by simp [h.len], fun j y q hy hq => ?_⟩
  rcases Nat.lt_or_ge j xs.length with hj | hj
  · rw [List.getElem?_append_left hj] at hy
    rw [List.getElem?_append_left (by rw [h.len]; exact hj)] at hq
    exact h.el j y q hy hq
  · have hj' : j = xs.length := by
      have := (List.getElem?_eq_some_iff.1 hy).1
      rw [List.length_append, List.length_singleton] at this
      omega
    subst hj'
    have e1 : x = y := by simpa using hy
    rw [← h.len] at hq
    have e2 : u = q := by simpa using hq
    subst e1; subst e2
    exact hR
theorem GV.reads {A : Option Addr} {n c : Nat} (h : GV eS eI b (.slice A n c) vs xs W) : n = vs.length ∧ n ≤ c ∧ K1.C W A (vs.map cell1).length (vs.map cell1) := by
  obtain ⟨h1, h2, h3⟩ := Kd.R_reads' h.row
  exact ⟨by simpa using h1, h2, h3⟩
end
section
variable {B : Base} {w w0 : World} {its : List Item} {ps : List (World → Prop)} {eS eI b g : Nat} {v u : Value} {vs : List Value} {xs : List (List Int)} {x : List Int}
theorem WS.both (h : WS B w its ps) {p q r : World → Prop} (hp : p ∈ ps) (hq : q ∈ ps) (hr : ∀ W, p W → q W → r W) : WS B w its (r :: ps) :=
  h.lay (fun S _ hps W hm => hr W (hps p hp W hm) (hps q hq W hm))
theorem WS.pure (h : WS B w its ps) {p : World → Prop} (hp : ∀ W, p W) : WS B w its (p :: ps) := h.lay (fun S _ _ W _ => hp W)
/-- An item of the call's own is written no more. -/
theorem WS.freezeP (h : WS (base w0) w its ps) {n : Nat} {i : Item} (hn : its[n]? = some i) {p : World → Prop} (hp : ∀ W A, i.p W A → (∀ k, A k → w0.heap.size ≤ k) → p W) : WS (base w0) w (its.eraseIdx n) (p :: ps) := by
  obtain ⟨h1, S, h2, h3, h4⟩ := h
  obtain ⟨A, B', g1, g2, g3, g4⟩ := h2.out hn
  refine ⟨h1, B', g2, fun k hk => h3 k ((g3 k).2 (.inr hk)), fun q hq => ?_⟩
  rcases List.mem_cons.1 hq with rfl | hq
  · exact fun W hm => hp W A (i.loc g1 hm.size (fun k hk => hm.block k (i.lt g1 hk) (g4 k hk))) (fun k hk => (h3 k ((g3 k).2 (.inl hk))).resolve_left (fun h => h))
  · exact (h4 q hq).step (Aft.refl S w) (fun k hk _ => (g3 k).2 (.inr hk))
theorem WS.freezeI (h : WS (base w0) w its ps) {n : Nat} (hn : its[n]? = some (.row KJ eI 0 u x)) : WS (base w0) w (its.eraseIdx n) ((fun W => KJ.R eI W 0 (fun k => w0.heap.size ≤ k) u x) :: ps) :=
  h.freezeP hn (fun W A hA hb => Kd.R_mono hA.1 hb)
theorem WS.pushV (h : WS (base w0) w its ps) {n : Nat} (hn : its[n]? = some (.row KJ eI 0 u x)) (hE : EV eI w0.heap.size vs xs ∈ ps) : WS (base w0) w (its.eraseIdx n) (EV eI w0.heap.size (vs ++ [u]) (xs ++ [x]) :: ps) :=
  ((h.freezeI hn).both (p := EV eI w0.heap.size vs xs) (List.mem_cons_of_mem _ hE) List.mem_cons_self (fun W h1 h2 => h1.push h2)).sub (fun p hp => by
    rcases List.mem_cons.1 hp with rfl | hp
    · exact List.mem_cons_self
    · exact List.mem_cons_of_mem _ (List.mem_cons_of_mem _ hp))
/-- What was built is whole. -/
theorem WS.wholeV (h : WS (base w0) w its ps) {n : Nat} (hn : its[n]? = some (.row K1 eS 0 v (vs.map cell1))) (hE : EV eI w0.heap.size vs xs ∈ ps) : WS (base w0) w (its.eraseIdx n) (GV eS eI w0.heap.size v vs xs :: ps) :=
  ((h.freezeP hn (p := fun W => K1.R eS W 0 (fun k => w0.heap.size ≤ k) v (vs.map cell1)) (fun W A hA hb => Kd.R_mono hA.1 hb)).both (p := EV eI w0.heap.size vs xs) (r := GV eS eI w0.heap.size v vs xs) (List.mem_cons_of_mem _ hE) List.mem_cons_self (fun W h1 h2 => ⟨h2, h1⟩)).sub (fun p hp => by
    rcases List.mem_cons.1 hp with rfl | hp
    · exact List.mem_cons_self
    · exact List.mem_cons_of_mem _ (List.mem_cons_of_mem _ hp))
/-- A literal of one row. -/
theorem WS.oneV (h : WS (base w0) w (.box g eS [u] :: .row KJ eI 0 u x :: its) ps) (hu : u.oneCell' = true) : WS (base w0) w its (GV eS eI w0.heap.size (.slice (some ⟨g, 0, none⟩) 1 1) [u] [x] :: ps) := by
  have h1 := h.freezeP (n := 0) rfl (p := fun W => K1.R eS W 0 (fun k => w0.heap.size ≤ k) (.slice (some ⟨g, 0, none⟩) 1 1) [[u]]) (fun W A hA hb => box_raw (rows := [[u]]) hA.1 (by simp) (Nat.zero_le _) rfl (Nat.le_refl _) (by simp [maxLen]) (hb g ((hA.2 g).2 rfl)) (fun j us (hj : [[u]][j]? = some us) => by
    have hj0 : j = 0 := by have := (List.getElem?_eq_some_iff.1 hj).1; simpa using this
    subst hj0
    have e : [u] = us := by simpa using hj
    subst e
    refine ⟨rfl, rfl, ?_⟩
    intro q hq
    rw [List.mem_singleton.1 hq]; exact hu))
  have h2 := WS.freezeI (n := 0) (eI := eI) (u := u) (x := x) h1 rfl
  refine (h2.both (p := fun W => KJ.R eI W 0 (fun k => w0.heap.size ≤ k) u x) (q := fun W => K1.R eS W 0 (fun k => w0.heap.size ≤ k) (.slice (some ⟨g, 0, none⟩) 1 1) [[u]]) (r := GV eS eI w0.heap.size (.slice (some ⟨g, 0, none⟩) 1 1) [u] [x]) List.mem_cons_self (List.mem_cons_of_mem _ List.mem_cons_self) (fun W q1 q2 => ⟨q2, by have := (EV.nil (eI := eI) (b := w0.heap.size) (W := W)).push q1; exact this⟩)).sub (fun p hp => ?_)
  rcases List.mem_cons.1 hp with rfl | hp
  · exact List.mem_cons_self
  · exact List.mem_cons_of_mem _ (List.mem_cons_of_mem _ (List.mem_cons_of_mem _ hp))
/-- One of the rows, by itself. -/
theorem WS.elV (h : WS B w its ps) (hE : EV eI b vs xs ∈ ps) {j : Nat} (hx : xs[j]? = some x) (hu : vs[j]? = some u) : ∃ A c, (u = .slice A x.length c ∧ x.length ≤ c) ∧ WS B w its ((fun W => KJ.C W A x.length x) :: ps) := by
  obtain ⟨A, c, rfl, hl, _⟩ := Kd.R_reads ((h.fact hE).el j x u hx hu)
  exact ⟨A, c, ⟨rfl, hl⟩, h.imp hE (fun W hW => (Kd.R_reads' (hW.el j x _ hx hu)).2.2)⟩
theorem WS.elsV (h : WS B w its ps) (hG : GV eS eI b v vs xs ∈ ps) : WS B w its (EV eI b vs xs :: ps) := h.imp hG (fun W hW => hW.els)
end
/-- A block of ints, read as a row. -/
theorem C_box {w : World} {g T : Nat} (l : List Int) (h : w.heap[g]? = some (.cells (l.map (Value.int .i64)).toArray T (0, 0))) (hl : l.length ≤ 9223372036854775807) : KJ.C w (some ⟨g, 0, none⟩) l.length l := by
  refine ⟨rfl, hl, fun _ => ⟨_, rfl, fun j p hj => ⟨[.int .i64 p], rfl, rfl, fun i u hu => ?_⟩⟩⟩
  have hi : i = 0 := by have := (List.getElem?_eq_some_iff.1 hu).1; simpa using this
  subst hi
  have hu' : Value.int .i64 p = u := by simpa using hu
  subst hu'
  have := Box_cells h 0 j (.int .i64 p) (by simp [hj])
  simpa [show KJ.sz = 1 from rfl] using this
theorem Cells_below {w W : World} {ad : Addr} {cs : List Value} (h : Cells w ad cs) (hb : Below w.heap.size w W) : Cells W ad cs := fun j u hu => pw_cell_below hb (h j u hu)
section
variable {P : Program} {N : Nat} {B : Base} {w0 : World} {L L' : Sl} {its its' : List Item} {ps ps' : List (World → Prop)} {Q : Exit → Act → World → Prop} {D : Dm} {k : Nat} {ops : Array Oper} {rest : List Oper} {o : Oper} {d T n m gx eS eI b bytes : Nat} {v u : Value} {x y : Operand} {vs : List Value} {xs : List (List Int)} {z : List Int}
/-- Row i's value out of the row that holds it. -/
theorem Y.loadV {ad ad' : Addr} {c : Nat} (hop : o.op = .load T x) (hx : ev L x = some (.pointer (some ad'))) (hT : ScT P T) (hp : GV eS eI b (.slice (some ad) n c) vs xs ∈ ps) (i : Int) (h0 : 0 ≤ i) (h1 : i < (n : Int)) (had : ad' = ad.add (i.toNat * 1)) (hu : vs[i.toNat]? = some u) : Yd P N B o u L its ps := .mk <| fun a w hf hW => by
  obtain ⟨e, _, hC⟩ := (hW.fact hp).reads
  obtain ⟨_, hcell⟩ := cells_of_C (us := [u]) hC (i := i.toNat) (by rw [List.getElem?_map, hu]; rfl)
  have h2 : w.cell? ad' = some u := by
    have := hcell 0 u rfl
    rw [had]
    have e0 : (ad.add (i.toNat * 1)).add 0 = ad.add (i.toNat * 1) := by simp [Addr.add]
    rwa [e0] at this
  unfold execOp; rw [hop]; simp [hf.ev hx, run_load_one hT.out h2]
/-- A literal without rows. -/
theorem Jl.lit0V {sz : Nat} (hw : wants ops L o = some true) (hop : o.op = .buildSlice T 0 #[]) (hd : o.dst = some d) (hN : Nat.blt d N = true) (hT : ElT P T eS sz) (eI b : Nat)
    (h : ∀ g, Jl P N B D (k + 1) ops Q rest ((d, .slice (some ⟨g, 0, none⟩) ([] : List Value).length 0) :: L) (.row K1 eS 0 (.slice (some ⟨g, 0, none⟩) ([] : List Value).length 0) (([] : List Value).map cell1) :: its) (EV eI b [] [] :: ps)) (hD : D.takes k = false := by rfl) : Jl P N B D k ops Q (o :: rest) L its ps :=
  Jl.lit0 K1 hw hop hd hN hT (fun g => Jl.ws (ι := Unit) (fun _ => True) (fun _ => _) (fun _ => EV eI b [] [] :: ps) (fun w hW => ⟨(), trivial, hW.pure (fun _ => EV.nil)⟩) (fun _ _ => h g)) hD
/-- x = append(x, one row of its own). -/
theorem Jl.appV (hw : wants ops L o = some true) (hop : o.op = .call { callee := .builtin .append, args := #[x, y], argTypes := #[T, T] }) (hd : o.dst = some d) (hN : Nat.blt d N = true) (hx : ev L x = some v) (hy : ev L y = some (.slice (some ⟨gx, 0, none⟩) 1 1))
    (hT : ApT P T eS 1 bytes) (hb : Item.box gx eS [u] ∈ its) (hone : u.oneCell' = true) (hn : OutAt (.row K1 eS 0 v (vs.map cell1)) its its') {its2 : List Item} (hn2 : OutAt (.row KJ eI 0 u z) its' its2) (hE : EV eI w0.heap.size vs xs ∈ ps)
    (hl : (vs.length + 1) * bytes ≤ 140737488355328) (hl2 : vs.length + 1 ≤ 9223372036854775807)
    (h : ∀ A c, vs.length + 1 ≤ c → Jl P N (base w0) D (k + 1) ops Q rest ((d, .slice A (vs ++ [u]).length c) :: L) (.row K1 eS 0 (.slice A (vs ++ [u]).length c) ((vs ++ [u]).map cell1) :: its2) (EV eI w0.heap.size (vs ++ [u]) (xs ++ [z]) :: ps)) (hD : D.takes k = false := by rfl) (hEE : D.needs k = false := by rfl) : Jl P N (base w0) D k ops Q (o :: rest) L its ps :=
  Jl.app (dk := K1) (cell1 u) (fun _ => False) hw hop hd hN hx hy hT hb rfl (fun w => ⟨rfl, rfl, fun q hq => by rw [List.mem_singleton.1 hq]; exact hone⟩) (fun q hq => by rw [List.mem_singleton.1 hq]; exact hone) hn (by simpa using hl) (by simpa using hl2) (fun A c hc => by
    rw [map_cell1, List.length_map]
    rw [List.length_map] at hc
    obtain ⟨n2, hn3, he⟩ := hn2.at
    exact Jl.ws (ι := Unit) (fun _ => True) (fun _ => (.row K1 eS 0 (.slice A (vs ++ [u]).length c) ((vs ++ [u]).map cell1) :: its2)) (fun _ => _) (fun w hW => ⟨(), trivial, by
      have := hW.pushV (n := n2 + 1) (vs := vs) (xs := xs) hn3 hE
      rw [he]
      exact this⟩) (fun _ _ => h A c hc)) hD hEE
/-- A call that makes two rows. -/
theorem Jl.draw2 {α β : Type} {da : Kd α} {db : Kd β} {e0 e1 : Nat} {ok0 ok1 : Value → Value → Nat → Prop} (V : Value → Value → Value) (xs : List α) (ys : List β) {f : FuncId} {args : Array Operand} {ts : Array TypeId} {vals : List Value} (hw : wants ops L o = some true) (hop : o.op = .call { callee := .value (.func f), args := args, argTypes := ts }) (hd : o.dst = some d) (hN : Nat.blt d N = true)
    (he : Ent P f) (hargs : evs L args.toList = some vals)
    (hc : ∀ w, WS B w its ps → Calls P f vals.toArray w fun e' w' => ∃ v0 v1, e' = .returned (V v0 v1) ∧ da.R e0 w' w.heap.size (fun k_ => ok0 v0 v1 k_) v0 xs ∧ db.R e1 w' w.heap.size (fun k_ => ok1 v0 v1 k_) v1 ys ∧ Below w.heap.size w w')
    (h : ∀ A0 c0 A1 c1, xs.length ≤ c0 → ys.length ≤ c1 → Jl P N B D (k + 1) ops Q rest ((d, V (.slice A0 xs.length c0) (.slice A1 ys.length c1)) :: L) its ((fun W => da.C W A0 xs.length xs) :: (fun W => db.C W A1 ys.length ys) :: ps)) (hD : D.takes k = false := by rfl) : Jl P N B D k ops Q (o :: rest) L its ps :=
  Jl.call (ι := (Option Addr × Nat) × (Option Addr × Nat)) (fun i => xs.length ≤ i.1.2 ∧ ys.length ≤ i.2.2) (fun i => V (.slice i.1.1 xs.length i.1.2) (.slice i.2.1 ys.length i.2.2)) (fun _ => its) (fun i => (fun W => da.C W i.1.1 xs.length xs) :: (fun W => db.C W i.2.1 ys.length ys) :: ps) hw hop hd hN rfl he hargs (fun w hW => by
    simp only [Array.empty_append, Array.append_empty]
    refine (hc w hW).mono ?_
    rintro e' w' ⟨v0, v1, rfl, r0, r1, hb⟩
    obtain ⟨A0, c0, rfl, l0, _⟩ := Kd.R_reads r0
    obtain ⟨A1, c1, rfl, l1, _⟩ := Kd.R_reads r1
    have hF := hW.fresh hb (p := fun W => da.C W A0 xs.length xs ∧ db.C W A1 ys.length ys) (fun W _ _ _ _ hm => ⟨rowsC r0 hm, rowsC r1 hm⟩)
    have h2 := hF.imp (List.mem_cons_self) (fun W h => h.2)
    have h1 := h2.imp (List.mem_cons_of_mem _ (List.mem_cons_self)) (fun W h => h.1)
    refine ⟨((A0, c0), (A1, c1)), rfl, ⟨l0, l1⟩, h1.sub (fun p hp => ?_), fun _ => hb⟩
    simp only [List.mem_cons] at hp ⊢
    rcases hp with rfl | rfl | hp
    · exact .inl rfl
    · exact .inr (.inl rfl)
    · exact .inr (.inr (.inr hp))) (fun i hi => h i.1.1 i.1.2 i.2.1 i.2.2 hi.1 hi.2) hD
/-- A literal of two ints. -/
theorem Jl.lit2 {p q : Int} (hw : wants ops L o = some true) (hop : o.op = .buildSlice T 2 #[(0, x), (1, y)]) (hd : o.dst = some d) (hN : Nat.blt d N = true) (hx : ev L x = some (.int .i64 p)) (hy : ev L y = some (.int .i64 q)) (hT : ElT P T eI 1) (hz : ZeroT P eI [.int .i64 0])
    (h : ∀ g, Jl P N B D (k + 1) ops Q rest ((d, .slice (some ⟨g, 0, none⟩) 2 2) :: L) (.box g eI [.int .i64 p, .int .i64 q] :: its) ps) (hD : D.takes k = false := by rfl) : Jl P N B D k ops Q (o :: rest) L its ps :=
  Jl.e (fun g : Nat => .slice (some ⟨g, 0, none⟩) 2 2) (fun g => .box g eI [.int .i64 p, .int .i64 q] :: its) (fun _ => ps) hw hd hN (fun a w hf hW => by
    have hTo := hT.out
    unfold elT at hTo
    obtain ⟨z, hz1, hz2⟩ := run_zeroT (w := w) hz.out
    have hzc : z.cells = #[.int .i64 0] := by apply Array.toList_inj.1; rw [hz2]
    cases hu : P.underlying T with
    | none => simp [hu] at hTo
    | some dd =>
      cases dd <;> simp [hu] at hTo
      rename_i e2
      obtain ⟨j, hj, rfl, hj1⟩ := hTo
      refine ⟨w.heap.size, w.alloc (.cells #[.int .i64 p, .int .i64 q] e2), ?_, fun _ => below_alloc (Below.refl _ _) _, hW.alloc e2 #[.int .i64 p, .int .i64 q]⟩
      unfold execOp; rw [hop]
      have e : ∀ f : Nat → Value, Array.map f (Array.range 2) = #[f 0, f 1] := fun f => by apply Array.toList_inj.1; rw [Array.toList_map, Array.toList_range]; rfl
      simp [Instr.buildSlice, run_underlying hu, sizeOf, typeInfo, hj, hj1, hz1, hzc, Instr.fill, newRow, hf.ev hx, hf.ev hy, Value.cells, e]) h hD
/-- A call that makes a row of rows. -/
theorem Jl.callGV {f : FuncId} {args : Array Operand} {ts : Array TypeId} {vals : List Value} (V : Value → Value) (hw : wants ops L o = some true) (hop : o.op = .call { callee := .value (.func f), args := args, argTypes := ts }) (hd : o.dst = some d) (hN : Nat.blt d N = true)
    (he : Ent P f) (hargs : evs L args.toList = some vals)
    (hc : ∀ w, WS (base w0) w its ps → Calls P f vals.toArray w fun e' w' => ∃ A c vs, e' = .returned (V (.slice A (vs : List Value).length c)) ∧ GV eS eI w.heap.size (.slice A vs.length c) vs xs w' ∧ Below w.heap.size w w')
    (h : ∀ A c vs, (vs : List Value).length = xs.length → vs.length ≤ c → Jl P N (base w0) D (k + 1) ops Q rest ((d, V (.slice A vs.length c)) :: L) its (GV eS eI w0.heap.size (.slice A vs.length c) vs xs :: ps)) (hD : D.takes k = false := by rfl) : Jl P N (base w0) D k ops Q (o :: rest) L its ps :=
  Jl.call (ι := Option Addr × Nat × List Value) (fun i => i.2.2.length = xs.length ∧ i.2.2.length ≤ i.2.1) (fun i => V (.slice i.1 i.2.2.length i.2.1)) (fun _ => its) (fun i => GV eS eI w0.heap.size (.slice i.1 i.2.2.length i.2.1) i.2.2 xs :: ps) hw hop hd hN rfl he hargs (fun w hW => by
    simp only [Array.empty_append, Array.append_empty]
    refine (hc w hW).mono ?_
    rintro e' w' ⟨A, c, vs, rfl, hG, hb⟩
    exact ⟨(A, c, vs), rfl, ⟨hG.els.len, hG.reads.2.1⟩, hW.fresh hb (fun W _ _ _ _ hm => (hG.move hm).weaken hW.size), fun _ => hb⟩) (fun i hi => h i.1 i.2.1 i.2.2 hi.1 hi.2) hD
/-- A call that writes the row in the third field of its first argument. -/
theorem Jl.callMc {v0 x0 y0 r : Value} {vs : List Value} (I I' : Value → Item) {f : FuncId} {args : Array Operand} {ts : Array TypeId} (hw : wants ops L o = some true) (hop : o.op = .call { callee := .value (.func f), args := args, argTypes := ts }) (hd : o.dst = some d) (hN : Nat.blt d N = true)
    (he : Ent P f) (hargs : evs L args.toList = some (.agg [x0, y0, v0].toArray :: vs)) (hn : SetAt (I v0) (I' v0) its its')
    (hc : ∀ w A, WS B w its ps → (I v0).p w A → Calls P f (.agg [x0, y0, v0].toArray :: vs).toArray w fun e' w' => e' = .returned r ∧ ∃ A', (I' v0).p w' A' ∧ (∀ k, A' k → k < w.heap.size → A k) ∧ Aft A w w')
    (h : Jl P N B D (k + 1) ops Q rest ((d, r) :: L) its' ps) (hD : D.takes k = false := by rfl) (hE : D.needs k = false := by rfl) : Jl P N B D k ops Q (o :: rest) L its ps :=
  Jl.callM (I v0) (I' v0) hw hop hd hN he hargs hn hc h hD hE
end
end Go.Proofs.YtembbdhhpblapaaW.SL
