import Derived.Test.YthmgiagecgkmiaaDoorSLK
import Derived.OrdersHeld
/-! A region that draws its order: some operations are taken first, of the others one alone may come up each time. -/
namespace Go.Proofs.YthmgiagecgkmiaaDoorW.SL
open Go Go.RowKit Go.Proofs.YthmgiagecgkmiaaDoorW.PrintWords Go.Proofs.YthmgiagecgkmiaaDoorW.PrintLast
set_option linter.unusedSimpArgs false
set_option linter.unusedVariables false

universe u
section
variable {P : Program} {ops : Array Oper} {Q : Exit → Act → World → Prop} {md : Region.Mode} {ds : List Nat}
/-- Whatever order is picked from here on, and nothing that was there is written, but by ds. -/
def wpAnyB (P : Program) (md : Region.Mode) (ops : Array Oper) (Q : Exit → Act → World → Prop) (ds : List Nat) : Nat → Array Bool → Act → World → Prop
  | 0, listed, a, w => Region.ready md ops listed = [] ∧ Q .normal a w
  | fuel + 1, listed, a, w =>
    (Region.ready md ops listed = [] → Q .normal a w) ∧
    ∀ i ∈ Region.ready md ops listed, wpOp P ops Q i (fun a' w' => (i ∉ ds → Below w.heap.size w w') ∧ wpAnyB P md ops Q ds fuel (listed.setIfInBounds i true) a' w') a w
theorem wpAny_of_B : ∀ (fuel : Nat) (listed : Array Bool) (a : Act) (w : World), wpAnyB P md ops Q ds fuel listed a w → wpAny P md ops Q fuel listed a w
  | 0, _, _, _, h => h
  | fuel + 1, _, _, _, h => ⟨h.1, fun i hi => wpOp_mono (fun a' w' h' => wpAny_of_B fuel _ a' w' h'.2) (h.2 i hi)⟩
theorem yieldsIf_mono {S S' : World → Prop} {o : Oper} {v : Value} {a : Act} (h : YieldsIf P ops S o v a) (hs : ∀ w, S' w → S w) : YieldsIf P ops S' o v a :=
  h.imp (fun ⟨h1, h2⟩ => ⟨h1, fun w hw => h2 w (hs w hw)⟩) id
theorem wpAnyB_first {i : Nat} {oi : Oper} {v : Value} (hi : ops[i]? = some oi) (hsel : ∀ (j : Nat) (o : Oper) cs b, ops[j]? = some o → o.op ≠ .select cs b)
    (hQ : ∀ c a w, Q (.panic c) (a.put oi.dst v) w → Q (.panic c) a w) (n : Nat) :
    ∀ (fuel : Nat) (listed : Array Bool) (a : Act) (w : World),
      (∀ j oj, ops[j]? = some oj → j ≠ i → listed.getD j true = false → (∀ e ∈ oj.after, Region.binds md e = true → e.on ≠ i) → oi.apart ops oj = true) →
      ListedClosed md ops listed → (∀ d ∈ ds, listed.getD d true = false → Region.reachB md ops i n d = true) →
      i ∈ Region.ready md ops listed → YieldsIf P ops (fun W => Below w.heap.size w W) oi v a →
      wpAnyB P md ops Q ds fuel (listed.setIfInBounds i true) (a.put oi.dst v) w → wpAnyB P md ops Q ds (fuel + 1) listed a w := by
  intro fuel
  induction fuel with
  | zero =>
    intro listed a w _ _ _ hr hy H
    refine ⟨fun h => (by rw [h] at hr; cases hr), fun j hj => ?_⟩
    by_cases hji : j = i
    · subst hji; exact hy.wpOp hi (Below.refl _ _) ⟨fun _ => Below.refl _ _, H⟩
    · have := ready_mono hj hji
      rw [H.1] at this
      cases this
  | succ fuel ih =>
    intro listed a w hfree hc hd hr hy H
    refine ⟨fun h => (by rw [h] at hr; cases hr), fun j hj => ?_⟩
    by_cases hji : j = i
    · subst hji; exact hy.wpOp hi (Below.refl _ _) ⟨fun _ => Below.refl _ _, H⟩
    · have h1 := H.2 j (ready_mono hj hji)
      obtain ⟨hjun, oj, hoj, hall⟩ := mem_ready.1 hj
      have hiun := (mem_ready.1 hr).1
      have hnot : ∀ e ∈ oj.after, Region.binds md e = true → e.on ≠ i := fun e he hb heq => by
        have h1 := hall e he hb
        rw [heq] at h1
        rcases Nat.lt_or_ge i listed.size with h' | h'
        · simp [h'] at hiun h1; rw [hiun] at h1; cases h1
        · simp [Array.getElem?_eq_none h'] at h1
      have hjd : j ∉ ds := fun hm => Region.reach_not_ready hc (hd j hm hjun) hiun hj
      have h2 := wpOp_putIf hoj (hfree j oj hoj hji hjun hnot) (fun cs b => hsel i oi cs b hi) (fun cs b => hsel j oj cs b hoj) hQ hy h1
      have hfree' : ∀ k ok, ops[k]? = some ok → k ≠ i → (listed.setIfInBounds j true).getD k true = false →
          (∀ e ∈ ok.after, Region.binds md e = true → e.on ≠ i) → oi.apart ops ok = true := fun k ok hk hki hun hno => by
        refine hfree k ok hk hki ?_ hno
        by_cases hjk : j = k
        · subst hjk; exact hjun
        · rw [getD_set_ne true hjk] at hun; exact hun
      have hd' : ∀ d ∈ ds, (listed.setIfInBounds j true).getD d true = false → Region.reachB md ops i n d = true := fun d hm hun => by
        refine hd d hm ?_
        by_cases hjk : j = d
        · subst hjk; exact hjun
        · rw [getD_set_ne true hjk] at hun; exact hun
      refine wpOp_mono (fun a' w' h3 => ⟨h3.2.1, ih (listed.setIfInBounds j true) a' w' hfree' (hc.set hj) hd' (ready_mono hr (Ne.symm hji)) (yieldsIf_mono h3.1 (fun W hW => (h3.2.1 hjd).trans (hW.mono (h3.2.1 hjd).size))) ?_⟩) h2
      rw [Array.setIfInBounds_comm _ _ hji]
      exact h3.2.2
/-- May the operations be walked in the order ord? -/
def ordOk (T : Bool × List (List Nat × List Nat)) (ds : List Nat) (D : Dm) : Nat → List Nat → List Bool → Bool
  | _, [], l => readyT T.2 l == []
  | k, i :: r, l => (if D.takes k = true then takeT T ds l (l.set i true) i else (readyT T.2 l == [i]) && (D.needs k || ds.contains i)) && ordOk T ds D (k + 1) r (l.set i true)
theorem wpAnyB_of_run {D : Dm} (hQ : ∀ c a d v w, Q (.panic c) (Act.put a d v) w → Q (.panic c) a w) : ∀ (ord : List Nat) (k : Nat) (l : Array Bool) (a : Act) (w : World), ordOk (rtab md ops) ds D k ord l.toList = true → runG P ops Q D k (ord.filterMap (fun i => ops[i]?)) a w → wpAnyB P md ops Q ds ord.length l a w
  | [], k, l, a, w, h, hr => by
    simp only [ordOk, beq_iff_eq] at h
    rw [← ready_eq] at h
    exact ⟨h, hr⟩
  | i :: r, k, l, a, w, h, hr => by
    simp only [ordOk, Bool.and_eq_true] at h
    obtain ⟨h1, h2⟩ := h
    have hset : l.toList.set i true = (l.setIfInBounds i true).toList := by rw [Array.toList_setIfInBounds]
    by_cases ht : D.takes k = true
    · rw [if_pos ht] at h1
      have h3 := take_of (l := l) (l' := l.setIfInBounds i true) rfl (by rw [← hset]; exact h1)
      simp only [takeB, Bool.and_eq_true, beq_iff_eq] at h3
      obtain ⟨⟨⟨⟨⟨g1, g2⟩, g3⟩, g4⟩, g5⟩, _⟩ := h3
      have g3' : i ∈ Region.ready md ops l := by simpa using g3
      obtain ⟨_, o, ho, _⟩ := mem_ready.1 g3'
      rw [List.filterMap_cons, ho] at hr
      dsimp only at hr
      unfold runG at hr
      rw [if_pos ht] at hr
      obtain ⟨v, hy, hr⟩ := hr
      exact wpAnyB_first ho (Region.noSelect_spec g1) (fun c a w => hQ c a _ _ w) ops.size _ l a w (Region.free_spec ho g2) (Region.closedB_spec g4)
        (fun d hm hun => by have := List.all_eq_true.1 g5 d hm; rw [hun] at this; simpa using this) g3' hy (wpAnyB_of_run hQ r (k + 1) _ _ w (by rw [← hset]; exact h2) hr)
    · rw [if_neg ht] at h1
      simp only [Bool.and_eq_true, beq_iff_eq, Bool.or_eq_true] at h1
      obtain ⟨h3, h4⟩ := h1
      rw [← ready_eq] at h3
      have g3' : i ∈ Region.ready md ops l := by rw [h3]; simp
      obtain ⟨_, o, ho, _⟩ := mem_ready.1 g3'
      rw [List.filterMap_cons, ho] at hr
      dsimp only at hr
      unfold runG at hr
      rw [if_neg ht] at hr
      refine ⟨fun h0 => (by rw [h0] at g3'; cases g3'), fun j hj => ?_⟩
      rw [h3] at hj
      obtain rfl : j = i := by simpa using hj
      unfold wpOp
      rw [ho]
      dsimp only
      have hds : j ∉ ds → D.needs k = true := fun hn => h4.resolve_right (fun h => hn (by simpa using h))
      by_cases hw : Region.wanted o (yielded ops a.tmps) = true
      · rw [if_pos hw] at hr ⊢
        exact .inl (Oper.wp_mono (fun a' w' h' => ⟨fun hn => h'.1 (hds hn), wpAnyB_of_run hQ r (k + 1) _ _ w' (by rw [← hset]; exact h2) h'.2⟩) hr)
      · rw [if_neg hw] at hr ⊢
        exact ⟨fun _ => Below.refl _ _, wpAnyB_of_run hQ r (k + 1) _ _ w (by rw [← hset]; exact h2) hr⟩
theorem memH {α : Type u} {x : α} {l : List α} : x ∈ x :: l := .head _
theorem memT {α : Type u} {x y : α} {l : List α} (h : x ∈ l) : x ∈ y :: l := .tail _ h
def elemN (n : Nat) : List Nat → Bool
  | [] => false
  | m :: r => Nat.beq m n || elemN n r
/-- tk: the places taken first; nd: the places that write. -/
def mkD (tk nd : List Nat) : Dm := ⟨fun k => elemN k tk, fun k => !elemN k nd⟩
def drawOk (ops : Array Oper) (ds : List Nat) (D : Dm) (ord : List Nat) : Bool := ordOk (rtab .any ops) ds D 0 ord (List.replicate ops.size false) && Nat.beq ord.length ops.size
end
section
variable {P : Program} {N : Nat} {B : Base} {L L' : Sl} {its its' : List Item} {ps ps' : List (World → Prop)} {Q : Exit → Act → World → Prop} {ops : Array Oper} {c : Code}
theorem Cj.regionD {id : Nat} (hc : c = .region id ops true) (D : Dm) (ds : List Nat) (ord : List Nat) (hm : P.follows .mixedOrders = true) (hok : drawOk ops ds D ord = true)
    (h : Jl P N B D 0 ops Q (ord.filterMap (fun i => ops[i]?)) L its ps) (hQ : ∀ c a d v w, Q (.panic c) (Act.put a d v) w → Q (.panic c) a w := by intro c a d v w h; cases d <;> exact h) : Cj P N B c Q L its ps := by
  subst hc
  refine ⟨?_⟩
  intro a w hf hw
  refine wp_region_any hm ?_
  have hb : Below w.heap.size w { w with drawn := w.drawn + 1 } := ⟨rfl, rfl, rfl, Nat.le_refl _, fun _ _ => rfl⟩
  simp only [drawOk, Bool.and_eq_true] at hok
  have := wpAnyB_of_run (md := .any) hQ ord 0 (Array.replicate ops.size false) a { w with drawn := w.drawn + 1 } (by simpa using hok.1) (h a _ hf (hw.call hb))
  rw [Nat.eq_of_beq_eq_true hok.2] at this
  exact wpAny_of_B _ _ _ _ this
end
section
variable {α : Type} {dk : Kd α} {e b : Nat} {B : Base} {w w' : World} {its its' : List Item} {ps ps' : List (World → Prop)} {xs : List α} {v : Value} {ok : Nat → Prop}
theorem WS.rowSC {A : Option Addr} {n c : Nat} (h : WS B w its ps) (hi : Item.rowS dk e b (.slice A n c) xs ∈ its) : dk.C w A xs.length xs := by
  obtain ⟨S, hS⟩ := h.item hi
  exact (Kd.S_reads' hS.1).2.2
theorem WS.rowSCap {A : Option Addr} {n c : Nat} (h : WS B w its ps) (hi : Item.rowS dk e b (.slice A n c) xs ∈ its) : n = xs.length ∧ xs.length ≤ c := by
  obtain ⟨S, hS⟩ := h.item hi
  have := Kd.S_reads' hS.1
  omega
theorem WS.rowRS (h : WS B w its ps) (hb : Below w.heap.size w w') (hr : Kd.S dk e w' w.heap.size ok v xs) (hB : b ≤ w.heap.size) : WS B w' (.rowS dk e b v xs :: its) ps :=
  h.new hb (A := fun k => w.heap.size ≤ k ∧ k < w'.heap.size) ⟨Kd.S_lower (Kd.S_mono (Kd.S_bound hr) (fun k hk => ⟨hk.2.1, hk.2.2.1⟩)) hB, fun k hk => hk.2⟩ (fun k hk => hk.1)
end
section
variable {P : Program} {N : Nat} {B : Base} {L L' : Sl} {its its' : List Item} {ps ps' : List (World → Prop)} {Q : Exit → Act → World → Prop} {D : Dm} {k : Nat} {ops : Array Oper} {rest : List Oper} {o : Oper} {d T n m : Nat} {v v2 : Value} {x y z : Operand} {α : Type} {dk : Kd α} {e : Nat}
/-- A call that hands back one row, no two elements of which lead to one block. -/
theorem Jl.callRS (V : Value → Value) {xs : List α} {f : FuncId} {args : Array Operand} {ts : Array TypeId} {vals : List Value} (hw : wants ops L o = some true) (hop : o.op = .call { callee := .value (.func f), args := args, argTypes := ts }) (hd : o.dst = some d) (hN : Nat.blt d N = true)
    (he : Ent P f) (hargs : evs L args.toList = some vals)
    (hc : ∀ w, WS B w its ps → Calls P f vals.toArray w fun e' w' => ∃ v, e' = .returned (V v) ∧ Kd.S dk e w' w.heap.size (fun _ => True) v xs ∧ Below w.heap.size w w')
    (h : ∀ A c, xs.length ≤ c → Jl P N B D (k + 1) ops Q rest ((d, V (.slice A xs.length c)) :: L) (.rowS dk e 0 (.slice A xs.length c) xs :: its) ps) (hD : D.takes k = false := by rfl) : Jl P N B D k ops Q (o :: rest) L its ps :=
  Jl.call (ι := Option Addr × Nat) (fun i => xs.length ≤ i.2) (fun i => V (.slice i.1 xs.length i.2)) (fun i => .rowS dk e 0 (.slice i.1 xs.length i.2) xs :: its) (fun _ => ps) hw hop hd hN rfl he hargs (fun w hW => by
    simp only [Array.empty_append, Array.append_empty]
    refine (hc w hW).mono ?_
    rintro e' w' ⟨v, rfl, hr, hb⟩
    obtain ⟨A, c, rfl⟩ := Kd.S_slice hr
    obtain ⟨_, hl, _⟩ := Kd.S_reads' hr
    exact ⟨(A, c), rfl, hl, hW.rowRS hb hr (Nat.zero_le _), fun _ => hb⟩) (fun i hi => h i.1 i.2 hi) hD
end
section
variable {P : Program} {N : Nat} {B : Base} {L L' : Sl} {its its' : List Item} {ps ps' : List (World → Prop)} {Q : Exit → Act → World → Prop} {D : Dm} {k : Nat} {ops : Array Oper} {rest : List Oper} {o : Oper} {d : Nat} {v v0 : Value} {us vs : List Value}
/-- A call that writes what its first argument leads to. -/
theorem Jl.callMv (I I' : Value → Item) {f : FuncId} {args : Array Operand} {ts : Array TypeId} (hw : wants ops L o = some true) (hop : o.op = .call { callee := .value (.func f), args := args, argTypes := ts }) (hd : o.dst = some d) (hN : Nat.blt d N = true)
    (he : Ent P f) (hargs : evs L args.toList = some (v0 :: vs)) (hn : SetAt (I v0) (I' v0) its its')
    (hc : ∀ w A, WS B w its ps → (I v0).p w A → Calls P f (v0 :: vs).toArray w fun e' w' => e' = .returned v ∧ ∃ A', (I' v0).p w' A' ∧ (∀ k, A' k → k < w.heap.size → A k) ∧ Aft A w w')
    (h : Jl P N B D (k + 1) ops Q rest ((d, v) :: L) its' ps) (hD : D.takes k = false := by rfl) (hE : D.needs k = false := by rfl) : Jl P N B D k ops Q (o :: rest) L its ps :=
  Jl.callM (I v0) (I' v0) hw hop hd hN he hargs hn hc h hD hE
/-- The same, the row in the first field of the first argument. -/
theorem Jl.callMa (I I' : Value → Item) {f : FuncId} {args : Array Operand} {ts : Array TypeId} (hw : wants ops L o = some true) (hop : o.op = .call { callee := .value (.func f), args := args, argTypes := ts }) (hd : o.dst = some d) (hN : Nat.blt d N = true)
    (he : Ent P f) (hargs : evs L args.toList = some (.agg (v0 :: us).toArray :: vs)) (hn : SetAt (I v0) (I' v0) its its')
    (hc : ∀ w A, WS B w its ps → (I v0).p w A → Calls P f (.agg (v0 :: us).toArray :: vs).toArray w fun e' w' => e' = .returned v ∧ ∃ A', (I' v0).p w' A' ∧ (∀ k, A' k → k < w.heap.size → A k) ∧ Aft A w w')
    (h : Jl P N B D (k + 1) ops Q rest ((d, v) :: L) its' ps) (hD : D.takes k = false := by rfl) (hE : D.needs k = false := by rfl) : Jl P N B D k ops Q (o :: rest) L its ps :=
  Jl.callM (I v0) (I' v0) hw hop hd hN he hargs hn hc h hD hE
end
end Go.Proofs.YthmgiagecgkmiaaDoorW.SL
