import Derived.Test.YtacimfnaacdobaaSLX
import Derived.Test.YtacimfnaacdobaaSLA
import Derived.Shelf.SortM.Plain
import Derived.Shelf.SortM.SortNone
import Derived.Shelf.SlicesG.CompactI
/-! Rows of ints that the library writes: sorted, without doubles. -/
namespace Go.Proofs.YtacimfnaacdobaaW.SL
open Go Go.RowKit Go.Sort Go.Shelf Go.Lib Go.Proofs Go.Proofs.YtacimfnaacdobaaW.PrintWords
set_option linter.unusedSimpArgs false
set_option linter.unusedVariables false
abbrev KI : Kd Int := Kd.int .i64
abbrev eI (l : List Int) : List Value := l.map (Value.int .i64)
theorem reps_I {w : World} {b : Nat} {ok : Nat → Prop} : ∀ {xs : List Int} {cs : List Value}, Reps (KI.M w b ok) KI.sz xs cs ↔ cs = eI xs := by
  intro xs cs
  constructor
  · rintro ⟨h1, h2⟩
    have h1' : cs.length = xs.length := by rw [h1]; show xs.length * 1 = _; omega
    apply List.ext_getElem?
    intro j
    rw [List.getElem?_map]
    by_cases hj : j < xs.length
    · have h3 := h2 j xs[j] (List.getElem?_eq_getElem hj)
      have h4 : (cs.drop (j * 1)).take 1 = [Value.int .i64 xs[j]] := h3
      rw [List.getElem?_eq_getElem hj, Option.map_some]
      have h5 := congrArg (fun l => l[0]?) h4
      simpa [List.getElem?_take, List.getElem?_drop] using h5
    · rw [List.getElem?_eq_none (by omega), List.getElem?_eq_none (by omega)]; rfl
  · rintro rfl
    refine ⟨by simp [show KI.sz = 1 from rfl], fun j p hj => ?_⟩
    show ((eI xs).drop (j * 1)).take 1 = [Value.int .i64 p]
    have hlt : j < xs.length := (List.getElem?_eq_some_iff.1 hj).1
    have : ((eI xs).drop (j * 1)) = Value.int .i64 p :: (eI xs).drop (j + 1) := by
      rw [Nat.mul_one, List.drop_eq_getElem_cons (by simpa using hlt)]
      congr 1
      simp [(List.getElem?_eq_some_iff.1 hj).2]
    rw [this]; rfl
theorem row_I {w : World} {e b : Nat} {ok : Nat → Prop} {v : Value} {xs : List Int} : KI.R e w b ok v xs ↔ (∀ k, v.ownBlock = some k → ok k) ∧ w.ownsRow b e 1 v xs.length (eI xs) := by
  constructor
  · rintro ⟨h1, inner, h2, h3⟩
    have := reps_I.1 h3
    subst this
    exact ⟨h1, h2⟩
  · rintro ⟨h1, h2⟩
    exact ⟨h1, _, h2, reps_I.2 rfl⟩
theorem putRow_heap (w : World) (q g : Nat) (d : Array Int) (os : Array Obj) : (grow (putRow (Value.int .i64) (Sort.ahead w q) g 0 d) os).heap = w.heap.modify g (onCells (putCells (Value.int .i64) 0 d)) ++ os := rfl
/-- A row of ints whose cells were written anew, cut to its first m. -/
theorem putI {w : World} {e b g cap q m : Nat} {os : Array Obj} {A : Nat → Prop} {xs : List Int} (h : (Item.row KI e b (.slice (some ⟨g, 0, none⟩) xs.length cap) xs).p w A) (ys : List Int) (hl : ys.length = xs.length) (hm : m ≤ xs.length) :
    (Item.row KI e b (.slice (some ⟨g, 0, none⟩) (ys.take m).length cap) (ys.take m)).p (grow (putRow (Value.int .i64) (Sort.ahead w q) g 0 ys.toArray) os) A ∧ Aft A w (grow (putRow (Value.int .i64) (Sort.ahead w q) g 0 ys.toArray) os) := by
  obtain ⟨hr, hlt⟩ := h
  obtain ⟨h1, h2, h3⟩ := row_I.1 hr
  have hg : A g := h1 g rfl
  have hgl := hlt g hg
  have hml : (ys.take m).length = m := by rw [List.length_take]; omega
  rcases h3 with ⟨h3, _⟩ | ⟨g', cap', cur, h4, h5, h6, h7, h8, h9, h10⟩
  · cases h3
  simp only [Value.slice.injEq, Option.some.injEq, Addr.mk.injEq, and_true, true_and] at h4
  obtain ⟨rfl, rfl⟩ := h4
  have hsz : w.heap.size ≤ (grow (putRow (Value.int .i64) (Sort.ahead w q) g 0 ys.toArray) os).heap.size := by rw [putRow_heap]; simp
  have hat : ∀ k, k < w.heap.size → (grow (putRow (Value.int .i64) (Sort.ahead w q) g 0 ys.toArray) os).heap[k]? = (w.heap.modify g (onCells (putCells (Value.int .i64) 0 ys.toArray)))[k]? := fun k hk => by
    rw [putRow_heap, Array.getElem?_append_left (by simpa using hk)]
  refine ⟨⟨row_I.2 ⟨h1, by simp, .inr ⟨g, cap, putCells (Value.int .i64) 0 ys.toArray cur, rfl, h5, ?_, by rw [hml]; omega, h8, by simp [putCells, h9], ?_⟩⟩, fun k hk => Nat.lt_of_lt_of_le (hlt k hk) hsz⟩, rfl, rfl, rfl, hsz, fun k hk hn => ?_⟩
  · rw [hat g hgl, Array.getElem?_modify, if_pos rfl, h6]; rfl
  · rw [hml]
    apply List.ext_getElem?
    intro j
    rw [List.getElem?_take, List.getElem?_map, List.getElem?_take]
    by_cases hj : j < m
    · rw [if_pos (by omega), if_pos hj]
      have hjy : j < ys.length := by omega
      have hjc : j < cur.size := by omega
      simp only [putCells, Array.getElem?_toList, Array.getElem?_mapIdx, Array.getElem?_eq_getElem hjc, Option.map_some, Nat.zero_add, List.size_toArray]
      rw [if_pos ⟨Nat.zero_le _, hjy⟩, List.getElem?_eq_getElem hjy]
      simp [hjy]
    · rw [if_neg (by omega), if_neg hj]; rfl
  · rw [hat k hk, Array.getElem?_modify, if_neg (fun e : g = k => hn (e ▸ hg))]
theorem holds_I {w : World} {e b g cap : Nat} {A : Nat → Prop} {xs : List Int} (h : (Item.row KI e b (.slice (some ⟨g, 0, none⟩) xs.length cap) xs).p w A) : Holds (Value.int .i64) w g 0 xs.toArray ∧ g < w.heap.size ∧ xs.length ≤ cap := by
  obtain ⟨hr, hlt⟩ := h
  obtain ⟨h1, h2, h3⟩ := row_I.1 hr
  rcases h3 with ⟨h3, _⟩ | ⟨g', cap', cur, h4, h5, h6, h7, h8, h9, h10⟩
  · cases h3
  simp only [Value.slice.injEq, Option.some.injEq, Addr.mk.injEq, and_true, true_and] at h4
  obtain ⟨rfl, rfl⟩ := h4
  refine ⟨fun j hj => ?_, hlt g (h1 g rfl), h7⟩
  have hjx : j < xs.length := by simpa using hj
  have h11 := congrArg (fun l => l[j]?) h10
  simp only [List.getElem?_take, List.getElem?_map] at h11
  rw [if_pos (by omega), List.getElem?_eq_getElem hjx, Array.getElem?_toList] at h11
  have hd : xs.toArray[j]! = xs[j] := by simp [hjx]
  refine ⟨?_, ?_⟩
  · rw [hd]; simp [World.cell?, h6, h11]
  · simp [World.frozen?, h6]
section
variable {P : Program} {ρ : Ren}
def sortI (xs : List Int) : List Int := xs.mergeSort fun x y => decide (x ≤ y)
theorem sortI_len (xs : List Int) : (sortI xs).length = xs.length := List.length_mergeSort _
/-- What a row of ints is: nil, or a block of its own. -/
theorem row_cases {e b cap : Nat} {A : Option Addr} {S : Nat → Prop} {xs : List Int} {w : World} (h : (Item.row KI e b (.slice A xs.length cap) xs).p w S) : xs = [] ∨ ∃ g, A = some ⟨g, 0, none⟩ := by
  obtain ⟨h1, h2, h3⟩ := row_I.1 h.1
  rcases h3 with ⟨_, h3⟩ | ⟨g', cap', cur, h4, _⟩
  · exact .inl (List.length_eq_zero_iff.1 h3)
  · simp only [Value.slice.injEq] at h4
    exact .inr ⟨g', h4.1⟩
/-- slices.Sort at a row of ints. -/
theorem sort_I (Ly : SlLaysM.n5 P ρ) {e b cap : Nat} {A : Option Addr} {S : Nat → Prop} {xs : List Int} {w : World} (h : (Item.row KI e b (.slice A xs.length cap) xs).p w S) (hs : xs.length < 4611686018427387904) :
    Calls P (ρ.f 5) #[.slice A xs.length cap] w fun e' w' => e' = .returned (.tuple #[]) ∧ ∃ S', (Item.row KI e b (.slice A (sortI xs).length cap) (sortI xs)).p w' S' ∧ (∀ k, S' k → k < w.heap.size → S k) ∧ Aft S w w' := by
  rcases row_cases h with rfl | ⟨g, rfl⟩
  · refine (AnyM.slices_Sort_int_none Ly A cap w).mono ?_
    rintro e' w' ⟨rfl, rfl⟩
    have e0 : sortI [] = [] := by simp [sortI]
    rw [e0]
    exact ⟨rfl, S, h, fun k hk _ => hk, Aft.refl _ _⟩
  · obtain ⟨h1, h2, h3⟩ := holds_I h
    refine (AnyM.slices_Sort_int Ly g 0 cap xs w h1 h2 hs).mono ?_
    rintro e' w' ⟨rfl, n, os, rfl⟩
    have hp := putI (q := n) (os := os) (m := xs.length) h (sortI xs) (sortI_len xs) (Nat.le_refl _)
    rw [List.take_of_length_le (by rw [sortI_len]; exact Nat.le_refl _)] at hp
    exact ⟨rfl, S, hp.1, fun k hk _ => hk, hp.2⟩
theorem compact_len (xs : List Int) : (Lib.compact xs).length ≤ xs.length := by
  unfold Lib.compact Lib.compactUpTo
  rw [List.length_map]
  exact Nat.le_trans (List.length_filter_le _ _) (by rw [List.length_range]; exact Nat.le_refl _)
/-- slices.Compact at a row of ints. -/
theorem compact_I (Ly : SlLaysN.n43 P ρ) {e b cap : Nat} {A : Option Addr} {S : Nat → Prop} {xs : List Int} {w : World} (h : (Item.row KI e b (.slice A xs.length cap) xs).p w S) (hs : xs.length ≤ 9223372036854775807) :
    Calls P (ρ.f 43) #[.slice A xs.length cap] w fun e' w' => e' = .returned (.slice A (Lib.compact xs).length cap) ∧ ∃ S', (Item.row KI e b (.slice A (Lib.compact xs).length cap) (Lib.compact xs)).p w' S' ∧ (∀ k, S' k → k < w.heap.size → S k) ∧ Aft S w w' := by
  rcases row_cases h with rfl | ⟨g, rfl⟩
  · refine (AnyG.slices_Compact_int_empty Ly A cap w).mono ?_
    rintro e' w' ⟨rfl, rfl⟩
    exact ⟨rfl, S, h, fun k hk _ => hk, Aft.refl _ _⟩
  · obtain ⟨h1, h2, h3⟩ := holds_I h
    refine (AnyG.slices_Compact_int Ly g 0 cap xs w h1 hs h3).mono ?_
    rintro e' w' ⟨rfl, q, rfl⟩
    have hl := compact_len xs
    have hp := putI (q := q) (os := #[]) (m := (Lib.compact xs).length) h (Lib.compact xs ++ List.replicate (xs.length - (Lib.compact xs).length) 0) (by rw [List.length_append, List.length_replicate]; omega) hl
    rw [List.take_left] at hp
    have hg : ∀ W : World, grow W #[] = W := fun W => by unfold grow; simp
    rw [hg] at hp
    exact ⟨rfl, S, hp.1, fun k hk _ => hk, hp.2⟩
end
section
variable {P : Program} {N : Nat} {B : Base} {L L' : Sl} {its its' : List Item} {ps ps' : List (World → Prop)} {Q : Exit → Act → World → Prop} {D : Dm} {k : Nat} {ops : Array Oper} {rest : List Oper} {o : Oper} {d T n m c sz e bytes : Nat} {v v2 : Value} {x y z : Operand} {A : Option Addr} {j : Int} {kd : IntKind}
theorem map_add0 (A : Option Addr) : A.map (·.add 0) = A := by
  cases A with
  | none => rfl
  | some a => simp [Addr.add]
namespace Y
/-- l[:j]. -/
theorem sliTo (hop : o.op = .slice T x none (some y) none) (hx : ev L x = some (.slice A n c)) (hy : ev L y = some (.int kd j)) (hT : ElT P T e sz) (h0 : 0 ≤ j) (h1 : j ≤ (c : Int)) : Yd P N B o (.slice A j.toNat c) L its ps := .mk <| fun a w hf _ => by
  have hTo := hT.out
  unfold elT at hTo
  cases hu : P.underlying T with
  | none => simp [hu] at hTo
  | some dd =>
    cases dd <;> simp [hu] at hTo
    obtain ⟨i, hi, rfl, rfl⟩ := hTo
    have h2 := map_add0 A
    unfold execOp; rw [hop]
    simp [Instr.sliceAt, Instr.slice, Instr.sliceBounds, run_sliceBound, hf.ev hx, hf.ev hy, run_underlying hu, sizeOf, typeInfo, hi, h0, h1, h2]
/-- l[j:]. -/
theorem sliFrom (hop : o.op = .slice T x (some y) none none) (hx : ev L x = some (.slice A n c)) (hy : ev L y = some (.int kd j)) (hT : ElT P T e sz) (h0 : 0 ≤ j) (h1 : j ≤ (n : Int)) : Yd P N B o (.slice (if c = j.toNat then A else A.map (·.add (j.toNat * sz))) (n - j.toNat) (c - j.toNat)) L its ps := .mk <| fun a w hf _ => by
  have hTo := hT.out
  unfold elT at hTo
  cases hu : P.underlying T with
  | none => simp [hu] at hTo
  | some dd =>
    cases dd <;> simp [hu] at hTo
    obtain ⟨i, hi, rfl, rfl⟩ := hTo
    unfold execOp; rw [hop]
    simp [Instr.sliceAt, Instr.slice, Instr.sliceBounds, run_sliceBound, hf.ev hx, hf.ev hy, run_underlying hu, sizeOf, typeInfo, hi, h0, h1]
end Y
theorem run_app_none {w : World} (base : Nat) (t ty e : TypeId) (i : TypeInfo) (size : Nat) (ht : P.underlying t = some (.slice e)) (hi : P.info? e = some i)
    (v : Value) (n c : Nat) (xs : List Value) (hown : w.ownsRow base e size v n xs) :
    (Builtin.append_ #[t, t] ty #[v, .slice none 0 c]).run P w = .ok v w := by
  rcases hown.2 with ⟨rfl, rfl⟩ | ⟨g, cap, cur, rfl, _, _, hnc, _⟩
  · simp [Builtin.append_, run_underlying ht, sizeOf, typeInfo, hi, Builtin.lenOf, Builtin.firstCells]
  · simp [Builtin.append_, run_underlying ht, sizeOf, typeInfo, hi, Builtin.lenOf, Builtin.firstCells, hnc, storeCells]
/-- x = append(x, l..), l a row of ints that is only read. -/
theorem Jl.appI {xs zs : List Int} {A2 : Option Addr} {c2 : Nat} (hw : wants ops L o = some true) (hop : o.op = .call { callee := .builtin .append, args := #[x, y], argTypes := #[T, T] }) (hd : o.dst = some d) (hN : Nat.blt d N = true) (hx : ev L x = some v) (hy : ev L y = some (.slice A2 m c2))
    (hT : ApT P T e 1 8) (hm : m = zs.length) (hp : (fun w => KI.C w A2 zs.length zs) ∈ ps) (hn : OutAt (.row KI e 0 v xs) its its') (hl : (xs.length + zs.length) * 8 ≤ 140737488355328)
    (h : ∀ A c, (xs ++ zs).length ≤ c → Jl P N B D (k + 1) ops Q rest ((d, .slice A (xs ++ zs).length c) :: L) (.row KI e 0 (.slice A (xs ++ zs).length c) (xs ++ zs) :: its') ps) (hD : D.takes k = false := by rfl) (hEE : D.needs k = false := by rfl) : Jl P N B D k ops Q (o :: rest) L its ps := by
  subst hm
  obtain ⟨n, hn0, rfl⟩ := hn.at
  refine ⟨?_⟩
  intro a w hf hW
  obtain ⟨i, zz, i1, i2, i3, i4, i5⟩ := hT.inf
  have hC := hW.fact hp
  obtain ⟨A, g1, g2, g3⟩ := hW.beside hn0
  obtain ⟨q0, hown⟩ := row_I.1 g1.1
  obtain ⟨v', w', e1, e2, e3, e4⟩ : ∃ v' w', (Builtin.append_ #[T, T] o.type #[v, .slice A2 zs.length c2]).run P w = .ok v' w' ∧ w'.ownsRow 0 e 1 v' (xs.length + zs.length) (eI xs ++ eI zs) ∧ w.grownBy w' v.ownBlock ∧ (v'.ownBlock = v.ownBlock ∨ v'.ownBlock = some w.heap.size) := by
    cases A2 with
    | none =>
      obtain rfl : zs = [] := by
        rcases Nat.eq_zero_or_pos zs.length with h0 | h0
        · exact List.length_eq_zero_iff.1 h0
        · obtain ⟨ad, e, _⟩ := hC.2.2 h0
          cases e
      exact ⟨v, w, run_app_none 0 T o.type e i 1 hT.und i1 v xs.length c2 (eI xs) hown, by simpa using hown, ⟨rfl, rfl, rfl, Nat.le_refl _, fun _ _ _ => rfl⟩, .inl rfl⟩
    | some ad =>
      obtain ⟨v', w', e1, e2, e3, _, e4⟩ := run_append_own_at (P := P) (w := w) 0 T o.type e i zz 1 8 hT.und i1 i2 i3 i4 i5 hT.pos v xs.length _ hown ad zs.length c2 (eI zs) (by simp) (fun j u hu => by
        rw [List.getElem?_map] at hu
        cases hz : zs[j]? with
        | none => rw [hz] at hu; cases hu
        | some p =>
          rw [hz] at hu
          simp only [Option.map_some, Option.some.injEq] at hu
          subst hu
          have hlt : j < zs.length := (List.getElem?_eq_some_iff.1 hz).1
          obtain ⟨ad2, ha, hcell⟩ := hC.2.2 (by omega)
          injection ha with ha
          subst ha
          obtain ⟨cs, c1, c2, c3⟩ := hcell j p hz
          have c2' : cs = [.int .i64 p] := c2
          subst c2'
          have := c3 0 _ rfl
          simpa [show KI.sz = 1 from rfl] using this) (fun u hu => by
        obtain ⟨p, _, rfl⟩ := List.mem_map.1 hu
        rfl) (by simp only [maxLen]; omega) hl (Nat.zero_le _)
      exact ⟨v', w', e1, e2, e3, e4⟩
  have hown' : w'.ownsRow 0 e 1 v' (xs ++ zs).length (eI (xs ++ zs)) := by rw [List.length_append]; simpa [eI] using e2
  obtain ⟨A', c', rfl, hc'⟩ : ∃ A' c', v' = .slice A' (xs ++ zs).length c' ∧ (xs ++ zs).length ≤ c' := by
    rcases hown'.2 with ⟨rfl, h0⟩ | ⟨g, cap, cur, rfl, _, _, h7, _⟩
    · exact ⟨none, 0, by rw [h0], by rw [h0]; exact Nat.le_refl _⟩
    · exact ⟨_, cap, rfl, h7⟩
  have hAown : ∀ k, v.ownBlock = some k → A k := q0
  have haft : Aft A w w' := ⟨e3.os, e3.tape, e3.output, e3.size, fun k hk hnA => e3.block k hk (fun e => hnA (hAown k e.symm))⟩
  have hblt : ∀ k, (Value.slice A' (xs ++ zs).length c').ownBlock = some k → k < w'.heap.size := fun k hk => by
    rcases hown'.2 with ⟨e0, _⟩ | ⟨g, cap, cur, e0, _, h6, _⟩
    · rw [e0] at hk; cases hk
    · rw [e0] at hk
      obtain rfl : g = k := by simpa [Value.ownBlock] using hk
      exact blk_lt h6
  unfold runG
  rw [if_neg (by rw [hD]; simp), if_pos (hf.wants hw)]
  have hrun : (execOp a.eval o).run P w = .ok (.value (.slice A' (xs ++ zs).length c')) w' := by
    unfold execOp; rw [hop]
    simp only [List.length_append] at e1 ⊢
    simp [resolve, invoke, builtin, hf.ev hx, hf.ev hy, e1]
  unfold Oper.wp
  rw [hrun, Oper.upon_value, hd]
  refine ⟨fun h' => (by rw [hEE] at h'; cases h'), ?_⟩
  exact h A' c' hc' _ _ (hf.put hN _) (g3 w' _ (fun k => (Value.slice A' (xs ++ zs).length c').ownBlock = some k) ⟨row_I.2 ⟨fun k hk => hk, hown'⟩, hblt⟩ (fun k hk hlt => by
    rcases e4 with e4 | e4
    · exact hAown k (e4 ▸ hk)
    · rw [e4] at hk
      injection hk with hk
      omega) haft)
end
end Go.Proofs.YtacimfnaacdobaaW.SL
