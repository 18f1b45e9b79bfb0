import Derived.Test.YtacimfnaacdobaaDoorSLC
import Derived.Lib.OthersKept
/-! A strings.Builder of the call's own. -/
namespace Go.Proofs.YtacimfnaacdobaaDoorW.SL
open Go Go.RowKit Go.Proofs.YtacimfnaacdobaaDoorW.PrintWords
set_option linter.unusedSimpArgs false
set_option linter.unusedVariables false
theorem ownsF_loc {w w' : World} {B e n : Nat} {v : Value} {bs : List Value} (h : w.ownsRowF B e 1 v n bs) (hm : ∀ k, v.ownBlock = some k → w'.heap[k]? = w.heap[k]?) : w'.ownsRowF B e 1 v n bs := by
  refine ⟨h.1, ?_⟩
  rcases h.2 with h | ⟨g, cap, cur, fz, rfl, h1, h2, h3⟩
  · exact .inl h
  · exact .inr ⟨g, cap, cur, fz, rfl, h1, (hm g rfl).trans h2, h3⟩
theorem bldAt_loc {w w' : World} {T e B b : Nat} {p : Value} {bs : List Value} (h : Lib.BuilderAtF T e B b p bs w) (hb : w'.heap[b]? = w.heap[b]?) (hm : ∀ v, w.heap[b]? = some (.cells #[p, v] T (0, 0)) → ∀ k, v.ownBlock = some k → w'.heap[k]? = w.heap[k]?) : Lib.BuilderAtF T e B b p bs w' := by
  obtain ⟨h1, v, h2, h3, h4⟩ := h
  exact ⟨h1, v, hb.trans h2, ownsF_loc h3 (hm v h2), h4⟩
/-- A Builder in block b, with its bytes. -/
def Bld (T e B b : Nat) (bs : List Value) : ItemS where
  p w S := Lib.IsBuilderF T e B b bs w ∧ (∀ k, S k → B ≤ k ∧ k < w.heap.size) ∧ S b ∧ ∀ q v, w.heap[b]? = some (.cells #[q, v] T (0, 0)) → ∀ g, v.ownBlock = some g → S g
  lt h hk := (h.2.1 _ hk).2
  loc := by
    intro w w' S h hm
    obtain ⟨h1, h2, h3, h4⟩ := h
    refine ⟨?_, fun k hk => ⟨(h2 k hk).1, ?_⟩, h3, fun q v hb g hg => h4 q v ((hm b h3).symm.trans hb) g hg⟩
    · rcases h1 with h1 | h1
      · exact .inl (bldAt_loc h1 (hm b h3) (fun v hv k hk => hm k (h4 _ v hv k hk)))
      · exact .inr (bldAt_loc h1 (hm b h3) (fun v hv k hk => hm k (h4 _ v hv k hk)))
    · have e := hm k hk
      rcases Nat.lt_or_ge k w'.heap.size with h5 | h5
      · exact h5
      · rw [Array.getElem?_eq_none h5, Array.getElem?_eq_getElem (h2 k hk).2] at e
        cases e
def AllBox (e : Nat) : List Item → Prop
  | [] => True
  | i :: r => (∃ g T cs, i = .box g T cs ∧ T ≠ e) ∧ AllBox e r
theorem boxes_of {e : Nat} {w : World} : ∀ {r : List Item} {S : Nat → Prop}, Own r w S → AllBox e r → ∀ k, S k → ∃ c T, T ≠ e ∧ w.heap[k]? = some (.cells c T (0, 0))
  | [], _, h, _, k, hk => absurd hk (h k)
  | i :: r, S, ⟨A, B, h1, h2, h3, _⟩, ⟨⟨g, T, cs, hi, hT⟩, hr⟩, k, hk => by
    subst hi
    rcases (h3 k).1 hk with ha | hb
    · obtain rfl := (h1.2 k).1 ha
      exact ⟨_, T, hT, h1.1⟩
    · exact boxes_of h2 hr k hb
theorem bld_row {T e B b : Nat} {bs : List Value} {w : World} (h : Lib.IsBuilderF T e B b bs w) {q v : Value} (hb : w.heap[b]? = some (.cells #[q, v] T (0, 0))) {g : Nat} (hg : v.ownBlock = some g) : B ≤ g ∧ g < w.heap.size ∧ ∃ c fz, w.heap[g]? = some (.cells c e fz) := by
  obtain ⟨p, hA⟩ : ∃ p, Lib.BuilderAtF T e B b p bs w := by
    rcases h with h | h
    · exact ⟨_, h⟩
    · exact ⟨_, h⟩
  obtain ⟨_, v', h2, h3, _⟩ := hA
  rw [hb] at h2
  simp only [Option.some.injEq, Obj.cells.injEq, Array.mk.injEq, List.cons.injEq, and_true, true_and] at h2
  obtain ⟨_, rfl⟩ := h2
  rcases h3.2 with ⟨rfl, _⟩ | ⟨g', cap, cur, fz, rfl, h4, h5, _⟩
  · cases hg
  · have : g' = g := by simpa [Value.ownBlock] using hg
    subst this
    refine ⟨h4, ?_, _, _, h5⟩
    rcases Nat.lt_or_ge g' w.heap.size with h6 | h6
    · exact h6
    · simp [Array.getElem?_eq_none h6] at h5
section
variable {P : Program} {N : Nat} {w0 : World} {L L' : Sl} {its r : List Item} {ps : List (World → Prop)} {Q : Exit → Act → World → Prop} {D : Dm} {k : Nat} {ops : Array Oper} {rest : List Oper} {o : Oper} {d T e b : Nat} {v : Value} {bs bs' : List Value}
/-- A fresh one. -/
theorem WS.toBld {w : World} (h : WS (base w0) w its ps) (hn : OutAt (.box b T [.pointer none, .slice none 0 0]) its r) : WS (base w0) w (.any (Bld T e w0.heap.size b []) :: r) ps := by
  obtain ⟨n, hn0, rfl⟩ := hn.at
  obtain ⟨h1, S, h2, h3, h4⟩ := h
  obtain ⟨A, B, g1, g2, g3, g4⟩ := h2.out hn0
  have hb : w0.heap.size ≤ b := (h3 b ((g3 b).2 (.inl ((g1.2 b).2 rfl)))).resolve_left (fun h => h)
  refine ⟨h1, S, ⟨A, B, ⟨?_, fun k hk => ?_, (g1.2 b).2 rfl, fun q v hv g hg => ?_⟩, g2, g3, g4⟩, h3, h4⟩
  · exact .inl ⟨hb, .slice none 0 0, g1.1, ⟨rfl, .inl ⟨rfl, rfl⟩⟩, by simp [Value.ownBlock]⟩
  · obtain rfl := (g1.2 k).1 hk
    exact ⟨hb, blk_lt g1.1⟩
  · rw [g1.1] at hv
    simp only [Option.some.injEq, Obj.cells.injEq, and_true] at hv
    have : v = .slice none 0 0 := by
      have := congrArg (fun a => a[1]?) hv
      simpa using this.symm
    subst this
    cases hg
theorem Jl.callB {f : FuncId} {args : Array Operand} {ts : Array TypeId} {vals : List Value} (hw : wants ops L o = some true) (hop : o.op = .call { callee := .value (.func f), args := args, argTypes := ts }) (hd : o.dst = some d) (hN : Nat.blt d N = true)
    (he : Ent P f) (hargs : evs L args.toList = some vals) (hn : OutAt (.any (Bld T e w0.heap.size b bs)) its r) (hbx : AllBox e r) (hps : ∀ p ∈ ps, ∀ W, Below w0.heap.size w0 W → p W)
    (hc : ∀ w, Lib.IsBuilderF T e w0.heap.size b bs w → w0.heap.size ≤ w.heap.size → Calls P f vals.toArray w fun e' w' => e' = .returned v ∧ Lib.IsBuilderF T e w0.heap.size b bs' w' ∧ Below w0.heap.size w w' ∧ Lib.OthersKept e (some b) w w')
    (h : Jl P N (base w0) D (k + 1) ops Q rest ((d, v) :: L) (.any (Bld T e w0.heap.size b bs') :: r) ps) (hD : D.takes k = false := by rfl) (hE : D.needs k = false := by rfl) : Jl P N (base w0) D k ops Q (o :: rest) L its ps := by
  obtain ⟨n, hn0, rfl⟩ := hn.at
  refine ⟨?_⟩
  intro a w hf hW
  obtain ⟨h1, S, h2, h3, h4⟩ := id hW
  unfold runG
  rw [if_neg (by rw [hD]; simp), if_pos (hf.wants hw)]
  have hl := hf.evs hargs
  have ha : args.map a.eval = vals.toArray := by
    apply Array.toList_inj.1
    rw [Array.toList_map]; exact hl
  have hrun : (execOp a.eval o).run P w = .ok (.enter f vals.toArray) w := by
    unfold execOp; rw [hop]
    simp [resolve, Act.eval, Deferred.ofValue, invoke, ha, he.out]
  unfold Oper.wp
  rw [hrun, Oper.upon_enter]
  obtain ⟨A, B, g1, g2, g3, g4⟩ := h2.out hn0
  obtain ⟨b1, b2, b3, b4⟩ := g1
  refine (hc w b1 hW.size).mono ?_
  rintro e' w' ⟨rfl, c1, c2, c3⟩
  refine ⟨fun h' => (by rw [hE] at h'; cases h'), ?_⟩
  rw [hd]
  have hbox := boxes_of g2 hbx
  have hkept : ∀ k, B k → w'.heap[k]? = w.heap[k]? := fun k hk => by
    obtain ⟨c, T', hT, hh⟩ := hbox k hk
    rw [hh]
    refine c3 k _ hh (fun e => ?_) (fun c' fz he => ?_)
    · injection e with e
      subst e
      exact g4 k b3 hk
    · injection he with _ he _
      exact hT he
  have hbelow : Below w0.heap.size w0 w' := hW.below.trans c2
  have haft : Aft (fun _ => False) w0 w' := ⟨hbelow.os, hbelow.tape, hbelow.output, hbelow.size, fun k hk _ => hbelow.block k hk⟩
  have hblt : b < w'.heap.size := by
    rcases c1 with c1 | c1
    · exact c1.lt
    · exact c1.lt
  have hbB : w0.heap.size ≤ b := (b2 b b3).1
  refine h _ _ (hf.put hN _) ⟨haft, fun k => (k = b ∨ ∃ q v, w'.heap[b]? = some (.cells #[q, v] T (0, 0)) ∧ v.ownBlock = some k) ∨ B k, ⟨_, B, ⟨c1, fun k hk => ?_, .inl rfl, fun q v hv g hg => .inr ⟨q, v, hv, hg⟩⟩, g2.loc c2.size hkept, fun k => Iff.rfl, fun k hk hB => ?_⟩, ?_, fun p hp W hm => ?_⟩
  · rcases hk with rfl | ⟨q, v, hv, hg⟩
    · exact ⟨hbB, hblt⟩
    · obtain ⟨r1, r2, _⟩ := bld_row c1 hv hg
      exact ⟨r1, r2⟩
  · rcases hk with rfl | ⟨q, v, hv, hg⟩
    · exact g4 k b3 hB
    · obtain ⟨_, _, c, fz, r3⟩ := bld_row c1 hv hg
      obtain ⟨c', T', hT, hh⟩ := hbox k hB
      rw [hkept k hB, hh] at r3
      injection r3 with r3
      injection r3 with _ r3 _
      exact hT r3
  · rintro k ((rfl | ⟨q, v, hv, hg⟩) | hk)
    · exact .inr hbB
    · exact .inr (bld_row c1 hv hg).1
    · exact h3 k ((g3 k).2 (.inr hk))
  · refine hps p hp W (hbelow.trans (hm.below hbelow.size ?_))
    rintro k ((rfl | ⟨q, v, hv, hg⟩) | hk)
    · exact hbB
    · exact (bld_row c1 hv hg).1
    · exact (h3 k ((g3 k).2 (.inr hk))).resolve_left (fun h => h)
end
section
variable {P : Program} {N : Nat} {B : Base} {L : Sl} {its : List Item} {ps : List (World → Prop)} {o : Oper} {T n m : Nat} {x : Operand} {ad ad' : Addr} {α : Type} {dk : Kd α} {xs : List α} {u : Value}
namespace Y
/-- A whole element of a row of numbers' records that is only read. -/
theorem loadK (z : α) (us : List Value) (hop : o.op = .load T x) (hx : ev L x = some (.pointer (some ad'))) (hT : AggT P T m) (hp : (fun w => dk.C w (some ad) n xs) ∈ ps) (i : Int) (h0 : 0 ≤ i) (h1 : i < (n : Int)) (had : ad' = ad.add (i.toNat * dk.sz)) (hus : ∀ w cs, dk.K w (xs.getD i.toNat z) cs → cs = us) (hl : Nat.beq us.length m = true) : Yd P N B o (.agg us.toArray) L its ps := .mk <| fun a w hf hW => by
  obtain rfl := Nat.eq_of_beq_eq_true hl
  obtain ⟨ad2, c, e, hl, hr, hcell⟩ := ReadsRow.get_ (hW.fact hp) z i h0 h1
  injection e with e
  subst e
  obtain rfl := hus w c hr
  have hC : Cells w ad' c := fun j u hu => by rw [had, add_add]; exact hcell j u hu
  unfold execOp; rw [hop]; simp [hf.ev hx, run_load_agg hT.out hC]
theorem loadK1 (z : α) (us : List Value) (hop : o.op = .load T x) (hx : ev L x = some (.pointer (some ad'))) (hT : ScT P T) (hp : (fun w => dk.C w (some ad) n xs) ∈ ps) (i : Int) (j : Nat) (h0 : 0 ≤ i) (h1 : i < (n : Int)) (had : ad' = (ad.add (i.toNat * dk.sz)).add j) (hus : ∀ w cs, dk.K w (xs.getD i.toNat z) cs → cs = us) (hu : us[j]? = some u) : Yd P N B o u L its ps := .mk <| fun a w hf hW => by
  obtain ⟨ad2, c, e, hl, hr, hcell⟩ := ReadsRow.get_ (hW.fact hp) z i h0 h1
  injection e with e
  subst e
  obtain rfl := hus w c hr
  have hC : w.cell? ad' = some u := by rw [had, add_add]; exact hcell j u hu
  unfold execOp; rw [hop]; simp [hf.ev hx, run_load_one hT.out hC]
theorem build0 {v : Value} (hop : o.op = .build T #[]) (hr : ∀ w, (Instr.build T #[]).run P w = .ok v w) : Yd P N B o v L its ps := .mk <| fun a w hf hW => by
  unfold execOp; rw [hop]; simp [hr w]
end Y
end
end Go.Proofs.YtacimfnaacdobaaDoorW.SL
