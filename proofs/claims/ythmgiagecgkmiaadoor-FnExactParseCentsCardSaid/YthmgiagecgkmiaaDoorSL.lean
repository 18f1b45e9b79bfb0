import Derived.Test.YthmgiagecgkmiaaDoorV1
/-! A walk by rules: the slots as a list, what lies in memory and may be written as a list of separate items, facts that last. -/
namespace Go.Proofs.YthmgiagecgkmiaaDoorW.SL
open Go Go.RowKit Go.Proofs.YthmgiagecgkmiaaDoorW.PrintWords
set_option linter.unusedSimpArgs false
set_option linter.unusedVariables false

/-! ### slots -/
abbrev Sl := List (Nat × Value)
def lk : Sl → Nat → Option Value
  | [], _ => none
  | (k, v) :: r, t => bif Nat.beq k t then some v else lk r t
def ev (L : Sl) : Operand → Option Value
  | .tmp t => lk L t
  | .const v => some v
  | .global g => some (.pointer (some ⟨g, 0, none⟩))
  | .func f => some (.func (.func f) #[] #[])
def evs (L : Sl) : List Operand → Option (List Value)
  | [] => some []
  | x :: r => match ev L x, evs L r with
    | some v, some vs => some (v :: vs)
    | _, _ => none
structure Fr (N : Nat) (a : Act) (L : Sl) : Prop where
  size : N ≤ a.tmps.size
  defers : a.defers = []
  at_ : ∀ t v, lk L t = some v → a.tmps[t]? = some v
section
variable {N : Nat} {a : Act} {L L' : Sl} {x : Operand} {v : Value}
theorem beq_no {k t : Nat} (e : ¬ k = t) : Nat.beq k t = false := by
  cases h : Nat.beq k t with
  | false => rfl
  | true => exact absurd (Nat.eq_of_beq_eq_true h) e
theorem Fr.ev (h : Fr N a L) (hx : ev L x = some v) : a.eval x = v := by
  cases x with
  | tmp t =>
    have := h.at_ t v hx
    simp only [Act.eval, Array.getD_eq_getD_getElem?, this, Option.getD_some]
  | const w => simpa [SL.ev, Act.eval] using hx
  | global g => simpa [SL.ev, Act.eval] using hx
  | func f => simpa [SL.ev, Act.eval] using hx
theorem Fr.evs (h : Fr N a L) : ∀ {xs : List Operand} {vs : List Value}, evs L xs = some vs → xs.map a.eval = vs
  | [], vs, hx => by simpa [SL.evs] using hx
  | x :: r, vs, hx => by
    unfold SL.evs at hx
    cases h1 : SL.ev L x with
    | none => simp [h1] at hx
    | some v =>
      cases h2 : SL.evs L r with
      | none => simp [h1, h2] at hx
      | some vs' =>
        simp only [h1, h2, Option.some.injEq] at hx
        subst hx
        simp [h.ev h1, h.evs h2]
theorem Fr.put (h : Fr N a L) {d : Nat} (hd : Nat.blt d N = true) (v : Value) : Fr N (a.put (some d) v) ((d, v) :: L) := by
  have hd' : d < N := by simpa [Nat.blt_eq] using hd
  refine ⟨by simpa [Act.put] using h.size, h.defers, fun t u hu => ?_⟩
  unfold lk at hu
  simp only [Act.put]
  by_cases e : d = t
  · subst e
    rw [show Nat.beq d d = true by simp] at hu
    simp only [cond_true, Option.some.injEq] at hu
    subst hu
    have := h.size
    rw [Array.getElem?_setIfInBounds_self_of_lt (by omega)]
  · rw [beq_no e] at hu
    simp only [cond_false] at hu
    rw [Array.getElem?_setIfInBounds_ne (by omega)]
    exact h.at_ t u hu
theorem Fr.put_none (h : Fr N a L) (v : Value) : Fr N (a.put none v) L := h
/-- What is told of the slots in L' is told in L. -/
def Sub : Sl → Sl → Prop
  | [], _ => True
  | p :: r, L => lk L p.1 = some p.2 ∧ Sub r L
theorem Sub.lk : ∀ {L' L : Sl}, Sub L' L → ∀ t v, lk L' t = some v → lk L t = some v
  | [], _, _, t, v, h => by simp [SL.lk] at h
  | p :: r, L, ⟨h1, h2⟩, t, v, h => by
    obtain ⟨k, u⟩ := p
    unfold SL.lk at h
    by_cases e : k = t
    · subst e
      rw [show Nat.beq k k = true by simp] at h
      simp only [cond_true, Option.some.injEq] at h
      subst h
      exact h1
    · rw [beq_no e] at h
      exact Sub.lk h2 t v h
theorem Fr.sub (h : Fr N a L) (hs : Sub L' L) : Fr N a L' := ⟨h.size, h.defers, fun t v hv => h.at_ t v (hs.lk t v hv)⟩
end
/-- Is the operation carried out (its guard)? -/
def wants (ops : Array Oper) (L : Sl) (o : Oper) : Option Bool :=
  match o.guard with
  | none => some true
  | some (j, want) => match (ops[j]?).bind (·.dst) with
    | none => none
    | some t => match lk L t with
      | some (.bool b) => some (b == want)
      | some (.tuple _) => some false
      | _ => none
theorem Fr.wants {N : Nat} {a : Act} {L : Sl} {ops : Array Oper} {o : Oper} {b : Bool} (h : Fr N a L) (hw : wants ops L o = some b) : Region.wanted o (yielded ops a.tmps) = b := by
  unfold SL.wants at hw
  unfold Region.wanted
  cases hg : o.guard with
  | none => simp only [hg, Option.some.injEq] at hw ⊢; exact hw
  | some p =>
    obtain ⟨j, want⟩ := p
    simp only [hg] at hw ⊢
    cases hj : (ops[j]?).bind (·.dst) with
    | none => simp [hj] at hw
    | some t =>
      simp only [hj] at hw
      cases hl : lk L t with
      | none => simp [hl] at hw
      | some u =>
        have := h.at_ t _ hl
        unfold yielded
        rw [hj, Option.bind_some, this]
        cases u <;> simp only [hl, Option.some.injEq, reduceCtorEq] at hw
        · rename_i c
          rw [← hw]
          cases c <;> cases want <;> rfl
        · rw [← hw]
          rfl

/-! ### memory -/
/-- A thing in memory that may be written: p w S: it is there, in the blocks S. -/
structure ItemS where
  p : World → (Nat → Prop) → Prop
  lt : ∀ {w S k}, p w S → S k → k < w.heap.size
  loc : ∀ {w w' : World} {S}, p w S → (∀ k, S k → w'.heap[k]? = w.heap[k]?) → p w' S
/-- A block of the call's own; a row of its own (elements of kind d and type e, made from block b on); anything else. -/
inductive Item : Type 1
  | box (g T : Nat) (cs : List Value)
  | row {α : Type} (d : Kd α) (e b : Nat) (v : Value) (xs : List α)
  /-- As row; no two elements lead to one block. -/
  | rowS {α : Type} (d : Kd α) (e b : Nat) (v : Value) (xs : List α)
  /-- As rowS, without element i: its cells are c, what it leads to (u) is told apart. -/
  | lent {α : Type} (d : Kd α) (e b : Nat) (v : Value) (xs : List α) (i : Int) (c : List Value) (u : Value)
  | any (i : ItemS)
def Item.p : Item → World → (Nat → Prop) → Prop
  | .box g T cs, w, S => w.heap[g]? = some (.cells cs.toArray T (0, 0)) ∧ ∀ k, S k ↔ k = g
  | .row d e b v xs, w, S => d.R e w b S v xs ∧ ∀ k, S k → k < w.heap.size
  | .rowS d e b v xs, w, S => Kd.S d e w b S v xs ∧ ∀ k, S k → k < w.heap.size
  | .lent d e b v xs i c u, w, S => ∃ ok oki : Nat → Prop, Kd.H d e w b ok v xs i oki c ∧ (∀ k, u.ownBlock = some k → oki k) ∧ (∀ k, S k ↔ (ok k ∧ ¬ oki k) ∧ k < w.heap.size) ∧ ∀ k, oki k → k < w.heap.size
  | .any i, w, S => i.p w S
theorem Item.lt : ∀ (i : Item) {w : World} {S : Nat → Prop} {k : Nat}, i.p w S → S k → k < w.heap.size
  | .box g T cs, w, S, k, h, hk => by rw [(h.2 k).1 hk]; exact blk_lt h.1
  | .row d e b v xs, w, S, k, h, hk => h.2 k hk
  | .rowS d e b v xs, w, S, k, h, hk => h.2 k hk
  | .lent d e b v xs i c u, w, S, k, ⟨_, _, _, _, h, _⟩, hk => ((h k).1 hk).2
  | .any i, w, S, k, h, hk => i.lt h hk
theorem Item.loc : ∀ (i : Item) {w w' : World} {S : Nat → Prop}, i.p w S → w.heap.size ≤ w'.heap.size → (∀ k, S k → w'.heap[k]? = w.heap[k]?) → i.p w' S
  | .box g T cs, w, w', S, h, _, hm => ⟨(hm g ((h.2 g).2 rfl)).trans h.1, h.2⟩
  | .row d e b v xs, w, w', S, h, hs, hm => ⟨Kd.R_move h.1 hm, fun k hk => Nat.lt_of_lt_of_le (h.2 k hk) hs⟩
  | .rowS d e b v xs, w, w', S, h, hs, hm => ⟨Kd.S_move h.1 hm, fun k hk => Nat.lt_of_lt_of_le (h.2 k hk) hs⟩
  | .lent d e b v xs i c u, w, w', S, ⟨ok, oki, h1, h2, h3, h4⟩, hs, hm => by
    have hb : Kd.H d e w b (fun k => ok k ∧ k < w.heap.size) v xs i oki c := by
      obtain ⟨g0, f, g1⟩ := h1
      exact ⟨fun k hk => ⟨g0 k hk, h4 k hk⟩, f, Kd.R_mono (Kd.R_bound g1) (fun k hk => ⟨⟨hk.1.1, hk.2.2.1⟩, hk.1.2⟩)⟩
    refine ⟨fun k => ok k ∧ k < w.heap.size, oki, Kd.H_step hb (fun k hk hn hlt => hm k ((h3 k).2 ⟨⟨hk.1, hn⟩, hlt⟩)), h2, fun k => ?_, fun k hk => Nat.lt_of_lt_of_le (h4 k hk) hs⟩
    rw [h3 k]
    constructor
    · rintro ⟨⟨g1, g2⟩, g3⟩
      exact ⟨⟨⟨g1, g3⟩, g2⟩, by omega⟩
    · rintro ⟨⟨⟨g1, g3⟩, g2⟩, _⟩
      exact ⟨⟨g1, g2⟩, g3⟩
  | .any i, w, w', S, h, _, hm => i.loc h hm
/-- All items, apart from one another, in the blocks S. -/
def Own : List Item → World → (Nat → Prop) → Prop
  | [], _, S => ∀ k, ¬ S k
  | i :: r, w, S => ∃ A B, i.p w A ∧ Own r w B ∧ (∀ k, S k ↔ A k ∨ B k) ∧ ∀ k, A k → ¬ B k
theorem Own.lt : ∀ {its : List Item} {w : World} {S : Nat → Prop}, Own its w S → ∀ k, S k → k < w.heap.size
  | [], _, _, h, k, hk => absurd hk (h k)
  | i :: r, w, S, ⟨A, B, h1, h2, h3, _⟩, k, hk => ((h3 k).1 hk).elim (fun ha => i.lt h1 ha) (fun hb => h2.lt k hb)
theorem Own.loc : ∀ {its : List Item} {w w' : World} {S : Nat → Prop}, Own its w S → w.heap.size ≤ w'.heap.size → (∀ k, S k → w'.heap[k]? = w.heap[k]?) → Own its w' S
  | [], _, _, _, h, _, _ => h
  | i :: r, w, w', S, ⟨A, B, h1, h2, h3, h4⟩, hs, hm => ⟨A, B, i.loc h1 hs (fun k hk => hm k ((h3 k).2 (.inl hk))), h2.loc hs (fun k hk => hm k ((h3 k).2 (.inr hk))), h3, h4⟩
/-- Item n by itself; and what stands there behind it. -/
theorem Own.focus : ∀ {its : List Item} {n : Nat} {i : Item} {w : World} {S : Nat → Prop}, its[n]? = some i → Own its w S → ∃ A, i.p w A ∧ (∀ k, A k → S k) ∧
    ∀ (w' : World) (i' : Item) (A' : Nat → Prop), i'.p w' A' → w.heap.size ≤ w'.heap.size → (∀ k, A' k → ¬ S k ∨ A k) → (∀ k, S k → ¬ A k → w'.heap[k]? = w.heap[k]?) → Own (its.set n i') w' (fun k => A' k ∨ (S k ∧ ¬ A k))
  | [], _, _, _, _, hn, _ => by simp at hn
  | j :: r, 0, i, w, S, hn, ⟨A, B, h1, h2, h3, h4⟩ => by
    obtain rfl : j = i := by simpa using hn
    refine ⟨A, h1, fun k hk => (h3 k).2 (.inl hk), fun w' i' A' hi' hs hA' hm => ?_⟩
    refine ⟨A', B, hi', h2.loc hs (fun k hk => hm k ((h3 k).2 (.inr hk)) (fun ha => h4 k ha hk)), fun k => ?_, fun k hk hb => ?_⟩
    · constructor
      · rintro (h | ⟨h5, h6⟩)
        · exact .inl h
        · exact .inr (((h3 k).1 h5).resolve_left h6)
      · rintro (h | h)
        · exact .inl h
        · exact .inr ⟨(h3 k).2 (.inr h), fun ha => h4 k ha h⟩
    · rcases hA' k hk with h | h
      · exact h ((h3 k).2 (.inr hb))
      · exact h4 k h hb
  | j :: r, n + 1, i, w, S, hn, ⟨A, B, h1, h2, h3, h4⟩ => by
    obtain ⟨C, g1, g2, g3⟩ := Own.focus (its := r) (n := n) (by simpa using hn) h2
    refine ⟨C, g1, fun k hk => (h3 k).2 (.inr (g2 k hk)), fun w' i' A' hi' hs hA' hm => ?_⟩
    refine ⟨A, fun k => A' k ∨ (B k ∧ ¬ C k), j.loc h1 hs (fun k hk => hm k ((h3 k).2 (.inl hk)) (fun hc => h4 k hk (g2 k hc))), g3 w' i' A' hi' hs (fun k hk => ?_) (fun k hb hc => hm k ((h3 k).2 (.inr hb)) hc), fun k => ?_, fun k hk hb => ?_⟩
    · rcases hA' k hk with h | h
      · exact .inl (fun hb => h ((h3 k).2 (.inr hb)))
      · exact .inr h
    · constructor
      · rintro (h | ⟨h5, h6⟩)
        · exact .inr (.inl h)
        · rcases (h3 k).1 h5 with h | h
          · exact .inl h
          · exact .inr (.inr ⟨h, h6⟩)
      · rintro (h | h | ⟨h5, h6⟩)
        · exact .inr ⟨(h3 k).2 (.inl h), fun hc => h4 k h (g2 k hc)⟩
        · exact .inl h
        · exact .inr ⟨(h3 k).2 (.inr h5), h6⟩
    · rcases hb with h | ⟨h5, h6⟩
      · rcases hA' k h with h' | h'
        · exact h' ((h3 k).2 (.inl hk))
        · exact h4 k hk (g2 k h')
      · exact h4 k hk h5
/-- Item n as two. -/
theorem Own.two {its : List Item} {n : Nat} {i : Item} {w : World} {S : Nat → Prop} (hn : its[n]? = some i) (hO : Own its w S) : ∃ A, i.p w A ∧ (∀ k, A k → S k) ∧
    ∀ (j1 j2 : Item) (A1 A2 : Nat → Prop), j1.p w A1 → j2.p w A2 → (∀ k, A k ↔ A1 k ∨ A2 k) → (∀ k, A1 k → ¬ A2 k) → Own (j2 :: its.set n j1) w S := by
  obtain ⟨A, g1, g2, g3⟩ := hO.focus hn
  refine ⟨A, g1, g2, fun j1 j2 A1 A2 h1 h2 h3 h4 => ?_⟩
  refine ⟨A2, _, h2, g3 w j1 A1 h1 (Nat.le_refl _) (fun k hk => .inr ((h3 k).2 (.inl hk))) (fun _ _ _ => rfl), fun k => ?_, fun k hk hb => ?_⟩
  · constructor
    · intro hs
      by_cases ha : A k
      · exact ((h3 k).1 ha).elim (fun h => .inr (.inl h)) .inl
      · exact .inr (.inr ⟨hs, ha⟩)
    · rintro (h | h | h)
      · exact g2 k ((h3 k).2 (.inr h))
      · exact g2 k ((h3 k).2 (.inl h))
      · exact h.1
  · rcases hb with h | h
    · exact h4 k h hk
    · exact h.2 ((h3 k).2 (.inr hk))
/-- Two as one. -/
theorem Own.one : ∀ {its : List Item} {n : Nat} {j1 j2 i : Item} {w : World} {S : Nat → Prop}, its[n]? = some j1 → Own (j2 :: its) w S → (∀ A1 A2 : Nat → Prop, j1.p w A1 → j2.p w A2 → (∀ k, A1 k → ¬ A2 k) → i.p w (fun k => A1 k ∨ A2 k)) → Own (its.set n i) w S := by
  intro its n j1 j2 i w S hn ⟨A2, C, h1, h2, h3, h4⟩ hi
  obtain ⟨A1, g1, g2, g3⟩ := h2.focus hn
  have hi' := hi A1 A2 g1 h1 (fun k hk h' => h4 k h' (g2 k hk))
  have hO := g3 w i _ hi' (Nat.le_refl _) (fun k hk => hk.elim .inr (fun h => .inl (fun hc => h4 k h hc))) (fun _ _ _ => rfl)
  refine (show (fun k => (A1 k ∨ A2 k) ∨ (C k ∧ ¬ A1 k)) = S from funext fun k => propext ?_) ▸ hO
  rw [h3 k]
  constructor
  · rintro ((h | h) | h)
    · exact .inr (g2 k h)
    · exact .inl h
    · exact .inr h.1
  · rintro (h | h)
    · exact .inl (.inr h)
    · by_cases ha : A1 k
      · exact .inl (.inl ha)
      · exact .inr ⟨h, ha⟩
/-- Item n taken out. -/
theorem Own.out : ∀ {its : List Item} {n : Nat} {i : Item} {w : World} {S : Nat → Prop}, its[n]? = some i → Own its w S → ∃ A B, i.p w A ∧ Own (its.eraseIdx n) w B ∧ (∀ k, S k ↔ A k ∨ B k) ∧ ∀ k, A k → ¬ B k
  | [], _, _, _, _, hn, _ => by simp at hn
  | j :: r, 0, i, w, S, hn, ⟨A, B, h1, h2, h3, h4⟩ => by
    obtain rfl : j = i := by simpa using hn
    exact ⟨A, B, h1, h2, h3, h4⟩
  | j :: r, n + 1, i, w, S, hn, ⟨A, B, h1, h2, h3, h4⟩ => by
    obtain ⟨C, D, g1, g2, g3, g4⟩ := Own.out (its := r) (n := n) (by simpa using hn) h2
    refine ⟨C, fun k => A k ∨ D k, g1, ⟨A, D, h1, g2, fun k => Iff.rfl, fun k ha hd => h4 k ha ((g3 k).2 (.inr hd))⟩, fun k => ?_, fun k hc hd => ?_⟩
    · rw [h3 k, g3 k]
      constructor
      · rintro (h | h | h)
        · exact .inr (.inl h)
        · exact .inl h
        · exact .inr (.inr h)
      · rintro (h | h | h)
        · exact .inr (.inl h)
        · exact .inl h
        · exact .inr (.inr h)
    · rcases hd with h | h
      · exact h4 k h ((g3 k).2 (.inl hc))
      · exact g4 k hc h
/-- W is w but for the blocks S and new ones. -/
structure Aft (S : Nat → Prop) (w W : World) : Prop where
  os : W.os = w.os
  tape : W.tape = w.tape
  output : W.output = w.output
  size : w.heap.size ≤ W.heap.size
  block : ∀ k, k < w.heap.size → ¬ S k → W.heap[k]? = w.heap[k]?
theorem Aft.refl (S : Nat → Prop) (w : World) : Aft S w w := ⟨rfl, rfl, rfl, Nat.le_refl _, fun _ _ _ => rfl⟩
theorem Aft.trans {S S' : Nat → Prop} {w w' W : World} (h : Aft S w w') (h' : Aft S' w' W) (hS : ∀ k, S' k → k < w.heap.size → S k) : Aft S w W :=
  ⟨h'.os.trans h.os, h'.tape.trans h.tape, h'.output.trans h.output, Nat.le_trans h.size h'.size, fun k hlt hn => (h'.block k (Nat.lt_of_lt_of_le hlt h.size) (fun hs => hn (hS k hs hlt))).trans (h.block k hlt hn)⟩
theorem Aft.of_below {w w' : World} (S : Nat → Prop) (h : Below w.heap.size w w') : Aft S w w' := ⟨h.os, h.tape, h.output, h.size, fun k hk _ => h.block k hk⟩
theorem Aft.below {S : Nat → Prop} {w w' : World} {B : Nat} (h : Aft S w w') (hB : B ≤ w.heap.size) (hS : ∀ k, S k → B ≤ k) : Below B w w' := ⟨h.os, h.tape, h.output, h.size, fun k hk => h.block k (by omega) (fun hs => by have := hS k hs; omega)⟩
theorem Aft.all {w w' : World} {S : Nat → Prop} (h : Aft S w w') (hS : ∀ k, k < w.heap.size → ¬ S k) : Below w.heap.size w w' := ⟨h.os, h.tape, h.output, h.size, fun k hk => h.block k hk (hS k hk)⟩
/-- A fact that lasts: whatever happens to the blocks S and to new ones. -/
def Sta (S : Nat → Prop) (w : World) (p : World → Prop) : Prop := ∀ W : World, Aft S w W → p W
theorem Sta.now {S : Nat → Prop} {w : World} {p : World → Prop} (h : Sta S w p) : p w := h w (Aft.refl S w)
theorem Sta.step {S S' : Nat → Prop} {w w' : World} {p : World → Prop} (h : Sta S w p) (ha : Aft S w w') (hS : ∀ k, S' k → k < w.heap.size → S k) : Sta S' w' p :=
  fun W hW => h W (ha.trans hW hS)
theorem Sta.imp {S : Nat → Prop} {w : World} {p q : World → Prop} (h : Sta S w p) (hq : ∀ W, p W → q W) : Sta S w q := fun W h1 => hq W (h W h1)
/-- Where a call began: its world, and what of it the call may write. -/
structure Base where
  w : World
  S : Nat → Prop
abbrev base (w : World) : Base := ⟨w, fun _ => False⟩
/-- The world at some point of a call that began at B. -/
structure WS (B : Base) (w : World) (its : List Item) (ps : List (World → Prop)) : Prop where
  aft : Aft B.S B.w w
  own : ∃ S, Own its w S ∧ (∀ k, S k → B.S k ∨ B.w.heap.size ≤ k) ∧ ∀ p ∈ ps, Sta S w p
section
variable {B : Base} {w w' : World} {its its' : List Item} {ps ps' : List (World → Prop)}
theorem WS.start (w : World) : WS (base w) w [] [] := ⟨Aft.refl _ _, fun _ => False, fun k h => h, fun k h => h.elim, fun p hp => by cases hp⟩
theorem WS.startW {w : World} {S : Nat → Prop} (h : Own its w S) (hp : ∀ p ∈ ps, Sta S w p) : WS ⟨w, S⟩ w its ps := ⟨Aft.refl _ _, S, h, fun k h => .inl h, hp⟩
theorem WS.below {w0 : World} (h : WS (base w0) w its ps) : Below w0.heap.size w0 w := h.aft.all (fun _ _ hk => hk)
theorem WS.size (h : WS B w its ps) : B.w.heap.size ≤ w.heap.size := h.aft.size
/-- Nothing of what was there has been touched. -/
theorem WS.call (h : WS B w its ps) (hb : Below w.heap.size w w') : WS B w' its ps := by
  obtain ⟨h1, S, h2, h3, h4⟩ := h
  exact ⟨h1.trans (Aft.of_below (fun _ => False) hb) (fun k hk _ => hk.elim), S, h2.loc hb.size (fun k hk => hb.block k (h2.lt k hk)), h3, fun p hp => (h4 p hp).step (Aft.of_below S hb) (fun k hk _ => hk)⟩
theorem WS.fact (h : WS B w its ps) {p : World → Prop} (hp : p ∈ ps) : p w := by
  obtain ⟨_, S, _, _, h4⟩ := h
  exact (h4 p hp).now
theorem WS.at (h : WS B w its ps) (n : Nat) {p : World → Prop} (hn : ps[n]? = some p) : p w := h.fact (List.mem_of_getElem? hn)
theorem WS.sub (h : WS B w its ps) (hs : ∀ p ∈ ps', p ∈ ps) : WS B w its ps' := by
  obtain ⟨h1, S, h2, h3, h4⟩ := h
  exact ⟨h1, S, h2, h3, fun p hp => h4 p (hs p hp)⟩
theorem WS.imp (h : WS B w its ps) {p q : World → Prop} (hp : p ∈ ps) (hq : ∀ W, p W → q W) : WS B w its (q :: ps) := by
  obtain ⟨h1, S, h2, h3, h4⟩ := h
  refine ⟨h1, S, h2, h3, fun r hr => ?_⟩
  rcases List.mem_cons.1 hr with rfl | hr
  · exact (h4 p hp).imp hq
  · exact h4 r hr
/-- A fact that lasts, out of the others. -/
theorem WS.lay (h : WS B w its ps) {q : World → Prop} (hq : ∀ S, Own its w S → (∀ p ∈ ps, Sta S w p) → Sta S w q) : WS B w its (q :: ps) := by
  obtain ⟨h1, S, h2, h3, h4⟩ := h
  refine ⟨h1, S, h2, h3, fun r hr => ?_⟩
  rcases List.mem_cons.1 hr with rfl | hr
  · exact hq S h2 h4
  · exact h4 r hr
/-- One more item, in new blocks. -/
theorem WS.new (h : WS B w its ps) (hb : Below w.heap.size w w') {i : Item} {A : Nat → Prop} (hi : i.p w' A) (hA : ∀ k, A k → w.heap.size ≤ k) : WS B w' (i :: its) ps := by
  have hc := h.call hb
  obtain ⟨h1, S, h2, h3, h4⟩ := h
  refine ⟨hc.aft, fun k => A k ∨ S k, ⟨A, S, hi, h2.loc hb.size (fun k hk => hb.block k (h2.lt k hk)), fun k => Iff.rfl, fun k ha hs => by have := hA k ha; have := h2.lt k hs; omega⟩, ?_, fun p hp => (h4 p hp).step (Aft.of_below S hb) (fun k hk hlt => ?_)⟩
  · rintro k (hk | hk)
    · exact .inr (Nat.le_trans h1.size (hA k hk))
    · exact h3 k hk
  · rcases hk with hk | hk
    · have := hA k hk; omega
    · exact hk
/-- Item n is another one now; nothing else was touched. -/
theorem WS.upd (h : WS B w its ps) {n : Nat} {i i' : Item} (hn : its[n]? = some i)
    (hw : ∀ A, i.p w A → (∀ k, A k → B.S k ∨ B.w.heap.size ≤ k) → ∃ A', i'.p w' A' ∧ (∀ k, A' k → k < w.heap.size → A k) ∧ Aft A w w') : WS B w' (its.set n i') ps := by
  obtain ⟨h1, S, h2, h3, h4⟩ := h
  obtain ⟨A, g1, g2, g3⟩ := h2.focus hn
  obtain ⟨A', e1, e2, e3⟩ := hw A g1 (fun k hk => h3 k (g2 k hk))
  have hS := h2.lt
  have e3' : Aft S w w' := ⟨e3.os, e3.tape, e3.output, e3.size, fun k hk hn => e3.block k hk (fun ha => hn (g2 k ha))⟩
  refine ⟨h1.trans e3 (fun k hk hlt => (h3 k (g2 k hk)).resolve_right (by omega)), _, g3 w' i' A' e1 e3.size (fun k hk => ?_) (fun k hs ha => e3.block k (hS k hs) ha), ?_, fun p hp => (h4 p hp).step e3' ?_⟩
  · by_cases hlt : k < w.heap.size
    · exact .inr (e2 k hk hlt)
    · exact .inl (fun hs => hlt (hS k hs))
  · rintro k (hk | hk)
    · by_cases hlt : k < w.heap.size
      · exact h3 k (g2 k (e2 k hk hlt))
      · exact .inr (Nat.le_trans h1.size (by omega))
    · exact h3 k hk.1
  · rintro k (hk | hk) hlt
    · exact g2 k (e2 k hk hlt)
    · exact hk.1
/-- Item n is written no more: a fact on it that lasts. -/
theorem WS.freeze (h : WS B w its ps) {n : Nat} {i : Item} (hn : its[n]? = some i) {p : World → Prop} (hp : ∀ W A, i.p W A → p W) : WS B w (its.eraseIdx n) (p :: ps) := by
  obtain ⟨h1, S, h2, h3, h4⟩ := h
  obtain ⟨A, B', g1, g2, g3, g4⟩ := h2.out hn
  refine ⟨h1, B', g2, fun k hk => h3 k ((g3 k).2 (.inr hk)), fun q hq => ?_⟩
  rcases List.mem_cons.1 hq with rfl | hq
  · exact fun W hm => hp W A (i.loc g1 hm.size (fun k hk => hm.block k (i.lt g1 hk) (g4 k hk)))
  · exact (h4 q hq).step (Aft.refl S w) (fun k hk _ => (g3 k).2 (.inr hk))
theorem WS.drop (h : WS B w its ps) {n : Nat} {i : Item} (hn : its[n]? = some i) : WS B w (its.eraseIdx n) ps := by
  have := h.freeze hn (p := fun _ => True) (fun _ _ _ => trivial)
  exact this.sub (fun p hp => List.mem_cons_of_mem _ hp)
/-- An item by itself. -/
theorem WS.item (h : WS B w its ps) {i : Item} (hi : i ∈ its) : ∃ A, i.p w A := by
  obtain ⟨_, S, h2, _, _⟩ := h
  obtain ⟨n, hn⟩ := List.mem_iff_getElem?.1 hi
  obtain ⟨A, g1, _⟩ := h2.focus hn
  exact ⟨A, g1⟩
/-- An item said otherwise. -/
theorem WS.itemAs (h : WS B w its ps) {n : Nat} {i i' : Item} (hn : its[n]? = some i) (hi : ∀ A, i.p w A → i'.p w A) : WS B w (its.set n i') ps :=
  h.upd hn (fun A hA _ => ⟨A, hi A hA, fun _ hk _ => hk, Aft.refl _ _⟩)
/-- The items told otherwise, in the same blocks. -/
theorem WS.recut (h : WS B w its ps) (ho : ∀ S, Own its w S → Own its' w S) : WS B w its' ps := by
  obtain ⟨h1, S, h2, h3, h4⟩ := h
  exact ⟨h1, S, ho S h2, h3, h4⟩
/-- A fact on new blocks alone lasts. -/
theorem WS.fresh (h : WS B w its ps) (hb : Below w.heap.size w w') {p : World → Prop} (hp : ∀ W : World, W.os = w'.os → W.tape = w'.tape → W.output = w'.output → w'.heap.size ≤ W.heap.size → (∀ k, w.heap.size ≤ k → k < w'.heap.size → W.heap[k]? = w'.heap[k]?) → p W) : WS B w' its (p :: ps) := by
  have hc := h.call hb
  obtain ⟨h1, S, h2, h3, h4⟩ := h
  refine ⟨hc.aft, S, h2.loc hb.size (fun k hk => hb.block k (h2.lt k hk)), h3, fun q hq => ?_⟩
  rcases List.mem_cons.1 hq with rfl | hq
  · exact fun W hm => hp W hm.os hm.tape hm.output hm.size (fun k g1 g2 => hm.block k g2 (fun hs => by have := h2.lt k hs; omega))
  · exact (h4 q hq).step (Aft.of_below S hb) (fun k hk _ => hk)
end
end Go.Proofs.YthmgiagecgkmiaaDoorW.SL
