import Derived.Test.YthmgiagecgkmiaaDoorSL
import Derived.Laws.Tables
import Derived.Laws.Rows
/-! The rules: code, and operations one by one. -/
namespace Go.Proofs.YthmgiagecgkmiaaDoorW.SL
open Go Go.RowKit Go.Proofs.YthmgiagecgkmiaaDoorW.PrintWords
set_option linter.unusedSimpArgs false
set_option linter.unusedVariables false

/-- The cells from an address on. -/
def Cells (w : World) (ad : Addr) (cs : List Value) : Prop := ∀ j u, cs[j]? = some u → w.cell? (ad.add j) = some u

/-! #### the operations of a region, in the text's order -/
/-- Which operations of a region that draws its order are taken first; which come last of all. -/
structure Dm where
  takes : Nat → Bool
  needs : Nat → Bool
abbrev plain : Dm := ⟨fun _ => false, fun _ => false⟩
def runG (P : Program) (ops : Array Oper) (Q : Exit → Act → World → Prop) (D : Dm) : Nat → List Oper → Act → World → Prop
  | _, [], a, w => Q .normal a w
  | k, o :: r, a, w =>
    if D.takes k = true then ∃ v, YieldsIf P ops (fun W => Below w.heap.size w W) o v a ∧ runG P ops Q D (k + 1) r (a.put o.dst v) w
    else if Region.wanted o (yielded ops a.tmps) = true then o.wp P a w (fun a' w' => (D.needs k = true → Below w.heap.size w w') ∧ runG P ops Q D (k + 1) r a' w') Q
    else runG P ops Q D (k + 1) r (a.put o.dst undef) w
theorem wpList_of_run {P : Program} {ops : Array Oper} {Q : Exit → Act → World → Prop} : ∀ (l : List Oper) (k : Nat) (a : Act) (w : World), runG P ops Q plain k l a w → wpList P ops Q l a w
  | [], _, _, _, h => h
  | o :: r, k, a, w, h => by
    unfold runG at h
    rw [if_neg (by simp)] at h
    unfold wpList
    split
    · rename_i hw
      rw [if_pos hw] at h
      exact .inl (Oper.wp_mono (fun a' w' h' => wpList_of_run r (k + 1) a' w' h'.2) h)
    · rename_i hw
      rw [if_neg hw] at h
      exact wpList_of_run r (k + 1) _ _ h

section
variable (P : Program) (N : Nat) (B : Base)
abbrev Stt := Sl → List Item → List (World → Prop) → Prop
/-- From the slots L, the items its, the facts ps on: K. -/
structure Ej (K : Act → World → Prop) (L : Sl) (its : List Item) (ps : List (World → Prop)) : Prop where
  mk :: (out : ∀ a w, Fr N a L → WS B w its ps → K a w)
structure Jl (D : Dm) (k : Nat) (ops : Array Oper) (Q : Exit → Act → World → Prop) (rest : List Oper) (L : Sl) (its : List Item) (ps : List (World → Prop)) : Prop where
  mk :: (out : ∀ a w, Fr N a L → WS B w its ps → runG P ops Q D k rest a w)
structure Cj (c : Code) (Q : Exit → Act → World → Prop) (L : Sl) (its : List Item) (ps : List (World → Prop)) : Prop where
  mk :: (out : ∀ a w, Fr N a L → WS B w its ps → c.wp P Q a w)
/-- The operation yields v and touches nothing. -/
structure Yd (o : Oper) (v : Value) (L : Sl) (its : List Item) (ps : List (World → Prop)) : Prop where
  mk :: (out : ∀ a w, Fr N a L → WS B w its ps → (execOp a.eval o).run P w = .ok (.value v) w)
end

section
variable {P : Program} {N : Nat} {B : Base} {L L' : Sl} {its its' : List Item} {ps ps' : List (World → Prop)} {Q : Exit → Act → World → Prop} {D : Dm} {k : Nat} {ops : Array Oper} {rest : List Oper} {o : Oper} {c c1 c2 : Code} {d t T n : Nat} {v v2 : Value} {b : Bool}

instance {K : Act → World → Prop} : CoeFun (Ej N B K L its ps) (fun _ => ∀ a w, Fr N a L → WS B w its ps → K a w) := ⟨Ej.out⟩
instance : CoeFun (Jl P N B D k ops Q rest L its ps) (fun _ => ∀ a w, Fr N a L → WS B w its ps → runG P ops Q D k rest a w) := ⟨Jl.out⟩
instance : CoeFun (Cj P N B c Q L its ps) (fun _ => ∀ a w, Fr N a L → WS B w its ps → c.wp P Q a w) := ⟨Cj.out⟩
instance : CoeFun (Yd P N B o v L its ps) (fun _ => ∀ a w, Fr N a L → WS B w its ps → (execOp a.eval o).run P w = .ok (.value v) w) := ⟨Yd.out⟩
/-! #### code -/
theorem Cj.seq (hc : c = .seq c1 c2) (h : Cj P N B c1 (Exit.then (c2.wp P Q) Q) L its ps) : Cj P N B c Q L its ps := by
  subst hc
  refine ⟨?_⟩
  exact fun a w hf hw => wp_seq (h a w hf hw)
theorem Cj.region {id : Nat} (hc : c = .region id ops false) (h : Jl P N B plain 0 ops Q ops.toList L its ps) : Cj P N B c Q L its ps := by
  subst hc
  refine ⟨?_⟩
  exact fun a w hf hw => wp_region_list (wpList_of_run _ _ _ _ (h a w hf hw))
theorem Cj.cond {z : Operand} (hc : c = .cond z c1 c2) (hz : ev L z = some (.bool b)) (ht : b = true → Cj P N B c1 Q L its ps) (hf : b = false → Cj P N B c2 Q L its ps) : Cj P N B c Q L its ps := by
  subst hc
  refine ⟨?_⟩
  exact fun a w hF hw => wp_cond_split (hF.ev hz) (fun e => ht e a w hF hw) (fun e => hf e a w hF hw)
theorem Cj.condT {z : Operand} (hc : c = .cond z c1 c2) (hz : ev L z = some (.bool true)) (h : Cj P N B c1 Q L its ps) : Cj P N B c Q L its ps :=
  Cj.cond hc hz (fun _ => h) (fun e => by cases e)
theorem Cj.condF {z : Operand} (hc : c = .cond z c1 c2) (hz : ev L z = some (.bool false)) (h : Cj P N B c2 Q L its ps) : Cj P N B c Q L its ps :=
  Cj.cond hc hz (fun e => by cases e) (fun _ => h)
theorem Cj.block {id : Nat} (hc : c = .block id c1) (h : Cj P N B c1 (Exit.inBlock id Q) L its ps) : Cj P N B c Q L its ps := by
  subst hc
  refine ⟨?_⟩
  exact fun a w hf hw => wp_block (h a w hf hw)
theorem Cj.skip (hc : c = .skip) (h : Ej N B (Q .normal) L its ps) : Cj P N B c Q L its ps := by
  subst hc
  refine ⟨?_⟩
  exact fun a w hf hw => wp_skip (h a w hf hw)
theorem Cj.label {l : Nat} (hc : c = .label l) (h : Ej N B (Q .normal) L its ps) : Cj P N B c Q L its ps := by
  subst hc
  refine ⟨?_⟩
  exact fun a w hf hw => wp_label (h a w hf hw)
theorem Cj.exit {id : Nat} (hc : c = .exit id) (h : Ej N B (Q (.exit id)) L its ps) : Cj P N B c Q L its ps := by
  subst hc
  refine ⟨?_⟩
  exact fun a w hf hw => wp_exit (h a w hf hw)
theorem Cj.ret (hc : c = .ret) (h : Ej N B (Q .ret) L its ps) : Cj P N B c Q L its ps := by
  subst hc
  refine ⟨?_⟩
  exact fun a w hf hw => wp_ret (h a w hf hw)
theorem Jl.nil (h : Ej N B (Q .normal) L its ps) : Jl P N B D k ops Q [] L its ps := .mk <| fun a w hf hw => h a w hf hw
/-- What follows is known to be this code. -/
theorem Ej.go {K : Act → World → Prop} (h : Cj P N B c2 Q L its ps) (hK : ∀ a w, c2.wp P Q a w → K a w) : Ej N B K L its ps := .mk <| fun a w hf hw => hK a w (h a w hf hw)
theorem Ej.sub {K : Act → World → Prop} (L' : Sl) (ps' : List (World → Prop)) (hL : Sub L' L) (hp : ∀ p ∈ ps', p ∈ ps) (h : Ej N B K L' its ps') : Ej N B K L its ps := .mk <| fun a w hf hw => h a w (hf.sub hL) (hw.sub hp)
theorem Ej.cut {K : Act → World → Prop} {ι : Type} (I : ι → Prop) (Lf : ι → Sl) (If : ι → List Item) (Pf : ι → List (World → Prop)) (hK : ∀ a w, (∃ i, I i ∧ Fr N a (Lf i) ∧ WS B w (If i) (Pf i)) → K a w) (i : ι) (hi : I i) (hL : Sub (Lf i) L) (hI : its = If i) (hp : ∀ p ∈ Pf i, p ∈ ps) : Ej N B K L its ps :=
  .mk <| fun a w hf hw => hK a w ⟨i, hi, hf.sub hL, by subst hI; exact hw.sub hp⟩
/-- What lies in memory, told otherwise. -/
theorem Cj.ws {ι : Type} (I : ι → Prop) (If : ι → List Item) (Pf : ι → List (World → Prop)) (h1 : ∀ w, WS B w its ps → ∃ i, I i ∧ WS B w (If i) (Pf i)) (h : ∀ i, I i → Cj P N B c Q L (If i) (Pf i)) : Cj P N B c Q L its ps := by
  refine ⟨?_⟩
  intro a w hf hw
  obtain ⟨i, hi, hw'⟩ := h1 w hw
  exact h i hi a w hf hw'
theorem Jl.ws {ι : Type} (I : ι → Prop) (If : ι → List Item) (Pf : ι → List (World → Prop)) (h1 : ∀ w, WS B w its ps → ∃ i, I i ∧ WS B w (If i) (Pf i)) (h : ∀ i, I i → Jl P N B D k ops Q rest L (If i) (Pf i)) : Jl P N B D k ops Q rest L its ps := by
  refine ⟨?_⟩
  intro a w hf hw
  obtain ⟨i, hi, hw'⟩ := h1 w hw
  exact h i hi a w hf hw'
theorem Ej.ws {K : Act → World → Prop} {ι : Type} (I : ι → Prop) (If : ι → List Item) (Pf : ι → List (World → Prop)) (h1 : ∀ w, WS B w its ps → ∃ i, I i ∧ WS B w (If i) (Pf i)) (h : ∀ i, I i → Ej N B K L (If i) (Pf i)) : Ej N B K L its ps := by
  refine ⟨?_⟩
  intro a w hf hw
  obtain ⟨i, hi, hw'⟩ := h1 w hw
  exact h i hi a w hf hw'
/-- Two in sequence, what holds between them given. -/
theorem Cj.seq_cut {ι : Type} (I : ι → Prop) (Lf : ι → Sl) (If : ι → List Item) (Pf : ι → List (World → Prop)) (hc : c = .seq c1 c2)
    (hx : Cj P N B c1 (Exit.then (fun a w => ∃ i, I i ∧ Fr N a (Lf i) ∧ WS B w (If i) (Pf i)) Q) L its ps) (hy : ∀ i, I i → Cj P N B c2 Q (Lf i) (If i) (Pf i)) : Cj P N B c Q L its ps := by
  subst hc
  refine ⟨?_⟩
  intro a w hf hw
  refine wp_seq (Code.wp_mono (fun e a w q => ?_) (hx a w hf hw))
  cases e with
  | normal =>
    obtain ⟨i, hi, h1, h2⟩ := q
    exact hy i hi a w h1 h2
  | exit _ => exact q
  | goto _ => exact q
  | ret => exact q
  | panic _ => exact q
  | outgrown => exact q
/-- A statement behind which all is told as before it. -/
theorem Cj.chk (hc : c = .seq c1 c2) (hx : Cj P N B c1 (Exit.then (fun a w => Fr N a L ∧ WS B w its ps) Q) L its ps) (hy : Cj P N B c2 Q L its ps) : Cj P N B c Q L its ps := by
  subst hc
  refine ⟨?_⟩
  intro a w hf hw
  refine wp_seq (Code.wp_mono (fun e a w q => ?_) (hx a w hf hw))
  cases e with
  | normal => exact hy a w q.1 q.2
  | exit _ => exact q
  | goto _ => exact q
  | ret => exact q
  | panic _ => exact q
  | outgrown => exact q
/-- Some items (the youngest) are forgotten. -/
inductive DropTo : List Item → List Item → Prop
  | refl {r} : DropTo r r
  | tail {i r r'} : DropTo r r' → DropTo (i :: r) r'
theorem WS.dropTo {w : World} : ∀ {its its' : List Item}, DropTo its its' → WS B w its ps → WS B w its' ps
  | _, _, .refl, h => h
  | _, _, .tail d, h => WS.dropTo d (h.drop (n := 0) rfl)
theorem Ej.back {K : Act → World → Prop} (hK : ∀ a w, (Fr N a L' ∧ WS B w its' ps) → K a w) (hI : DropTo its its') (hL : Sub L' L) : Ej N B K L its ps := .mk <| fun a w hf hw => hK a w ⟨hf.sub hL, hw.dropTo hI⟩
theorem least {p : Nat → Prop} (h : ∃ n, p n) : ∃ n, p n ∧ ∀ m, p m → n ≤ m := by
  obtain ⟨n, hn⟩ := h
  induction n using Nat.strongRecOn with
  | _ n ih =>
    by_cases hex : ∃ m, m < n ∧ p m
    · obtain ⟨m, hlt, hm⟩ := hex
      exact ih m hlt hm
    · exact ⟨n, hn, fun m hm => Nat.le_of_not_lt fun hlt => hex ⟨m, hlt, hm⟩⟩
open Classical in
theorem Cj.loop {ι : Type} (I : ι → Prop) (Lf : ι → Sl) (If : ι → List Item) (Pf : ι → List (World → Prop)) (μ : ι → Nat) (hc : c = .loop c1) (i0 : ι) (h0 : I i0) (hL : Sub (Lf i0) L) (hI : its = If i0) (hp : ∀ p ∈ Pf i0, p ∈ ps)
    (h : ∀ i, I i → Cj P N B c1 (Exit.then (fun a w => ∃ j, (I j ∧ μ j < μ i) ∧ Fr N a (Lf j) ∧ WS B w (If j) (Pf j)) Q) (Lf i) (If i) (Pf i)) : Cj P N B c Q L its ps := by
  subst hc; subst hI
  refine ⟨?_⟩
  intro a w hf hw
  let J : Act → World → Nat → Prop := fun a w n => ∃ i, I i ∧ μ i = n ∧ Fr N a (Lf i) ∧ WS B w (If i) (Pf i)
  have hmin : ∀ a w, (∃ n, J a w n) → ∃ n, J a w n ∧ ∀ m, J a w m → n ≤ m := fun a w hn => least hn
  refine wp_loop (fun a w => ∃ n, J a w n) (fun a w => if h : ∃ n, J a w n then (hmin a w h).choose else 0) ⟨_, i0, h0, rfl, hf.sub hL, hw.sub hp⟩ (fun a w hJ => ?_)
  rw [dif_pos hJ]
  obtain ⟨i, hi, hμ, h1, h2⟩ := (hmin a w hJ).choose_spec.1
  refine Code.wp_mono (fun e a' w' q => ?_) (h i hi a w h1 h2)
  cases e with
  | normal =>
    obtain ⟨j, ⟨hj, hlt⟩, g1, g2⟩ := q
    have hJ' : ∃ n, J a' w' n := ⟨_, j, hj, rfl, g1, g2⟩
    refine ⟨hJ', ?_⟩
    rw [dif_pos hJ', ← hμ]
    exact Nat.lt_of_le_of_lt ((hmin a' w' hJ').choose_spec.2 _ ⟨j, hj, rfl, g1, g2⟩) hlt
  | exit _ => exact q
  | goto _ => exact q
  | ret => exact q
  | panic _ => exact q
  | outgrown => exact q
/-- The call's end: the one result in a slot. -/
theorem Ej.out1 {fn : Func} {R : Ending → World → Prop} {K : Act → World → Prop} (hK : ∀ a w, bodyPost P fn R .ret a w → K a w) (hr : fn.results = #[.tmp t]) (hv : lk L t = some v) (hR : ∀ w, WS B w its ps → R (.returned v) w) : Ej N B K L its ps := by
  refine ⟨?_⟩
  intro a w hf hw
  have := hf.at_ t v hv
  refine hK a w ⟨hf.defers, v, ?_, hR w hw⟩
  simp [results, hr, this]
theorem Ej.out2 {fn : Func} {R : Ending → World → Prop} {K : Act → World → Prop} (hK : ∀ a w, bodyPost P fn R .ret a w → K a w) {s : Nat} (hr : fn.results = #[.tmp t, .tmp s]) (hv : lk L t = some v) (hu : lk L s = some v2) (hR : ∀ w, WS B w its ps → R (.returned (.tuple #[v, v2])) w) : Ej N B K L its ps := by
  refine ⟨?_⟩
  intro a w hf hw
  have h1 := hf.at_ t v hv
  have h2 := hf.at_ s v2 hu
  refine hK a w ⟨hf.defers, _, ?_, hR w hw⟩
  simp [results, hr, h1, h2]
theorem Ej.out3 {fn : Func} {R : Ending → World → Prop} {K : Act → World → Prop} (hK : ∀ a w, bodyPost P fn R .ret a w → K a w) {s r : Nat} {q : Value} (hr : fn.results = #[.tmp t, .tmp s, .tmp r]) (hv : lk L t = some v) (hu : lk L s = some v2) (hq : lk L r = some q) (hR : ∀ w, WS B w its ps → R (.returned (.tuple #[v, v2, q])) w) : Ej N B K L its ps := by
  refine ⟨?_⟩
  intro a w hf hw
  have h1 := hf.at_ t v hv
  have h2 := hf.at_ s v2 hu
  have h3 := hf.at_ r q hq
  refine hK a w ⟨hf.defers, _, ?_, hR w hw⟩
  simp [results, hr, h1, h2, h3]
/-- A call begins: the arguments in the first slots. -/
def slots0 : Nat → List Value → Sl
  | _, [] => []
  | n, v :: r => (n, v) :: slots0 (n + 1) r
theorem slots0_lk : ∀ (args : List Value) (n : Nat) (t : Nat) (v : Value), lk (slots0 n args) t = some v → ∃ j, t = n + j ∧ args[j]? = some v
  | [], _, _, _, h => by simp [slots0, lk] at h
  | u :: r, n, t, v, h => by
    unfold slots0 lk at h
    by_cases e : n = t
    · subst e
      rw [show Nat.beq n n = true by simp] at h
      exact ⟨0, rfl, by simpa using h⟩
    · rw [beq_no e] at h
      obtain ⟨j, h1, h2⟩ := slots0_lk r (n + 1) t v h
      exact ⟨j + 1, by omega, by simpa using h2⟩
theorem enter {f : FuncId} {fn : Func} {args : List Value} {w : World} {R : Ending → World → Prop} (hf : P.funcs[f]? = some fn) (hb : fn.body = some c) (hN : fn.ntmps = N)
    (h : Cj P N (base w) c (bodyPost P fn R) (slots0 0 args) [] []) : Calls P f args.toArray w R := by
  refine calls_of_wp hf hb (h _ _ ⟨?_, rfl, fun t v hv => ?_⟩ (WS.start w))
  · simp only [Array.size_append, Array.size_replicate, List.size_toArray]; omega
  · obtain ⟨j, h1, h2⟩ := slots0_lk args 0 t v hv
    have hj : j < args.length := by
      rcases Nat.lt_or_ge j args.length with h' | h'
      · exact h'
      · rw [List.getElem?_eq_none h'] at h2; cases h2
    rw [show t = j by omega, Array.getElem?_append_left (by simpa using hj)]
    simpa using h2
theorem enterS {f : FuncId} {fn : Func} {args : List Value} {w : World} {S : Nat → Prop} {R : Ending → World → Prop} (its : List Item) (ps : List (World → Prop)) (hO : Own its w S) (hp : ∀ p ∈ ps, Sta S w p) (hf : P.funcs[f]? = some fn) (hb : fn.body = some c) (hN : fn.ntmps = N)
    (h : Cj P N ⟨w, S⟩ c (bodyPost P fn R) (slots0 0 args) its ps) : Calls P f args.toArray w R := by
  refine calls_of_wp hf hb (h _ _ ⟨?_, rfl, fun t v hv => ?_⟩ (WS.startW hO hp))
  · simp only [Array.size_append, Array.size_replicate, List.size_toArray]; omega
  · obtain ⟨j, h1, h2⟩ := slots0_lk args 0 t v hv
    have hj : j < args.length := by
      rcases Nat.lt_or_ge j args.length with h' | h'
      · exact h'
      · rw [List.getElem?_eq_none h'] at h2; cases h2
    rw [show t = j by omega, Array.getElem?_append_left (by simpa using hj)]
    simpa using h2
theorem enterW {f : FuncId} {fn : Func} {args : List Value} {w : World} {R : Ending → World → Prop} (ps : List (World → Prop)) (hp : ∀ p ∈ ps, ∀ W, Below w.heap.size w W → p W) (hf : P.funcs[f]? = some fn) (hb : fn.body = some c) (hN : fn.ntmps = N)
    (h : Cj P N (base w) c (bodyPost P fn R) (slots0 0 args) [] ps) : Calls P f args.toArray w R :=
  enterS [] ps (fun k h => h) (fun p hp' W hm => hp p hp' W (hm.all (fun _ _ h => h))) hf hb hN h

/-! #### operations -/
theorem Jl.e {ι : Type} (val : ι → Value) (its' : ι → List Item) (ps' : ι → List (World → Prop)) (hw : wants ops L o = some true) (hd : o.dst = some d) (hN : Nat.blt d N = true)
    (h1 : ∀ a w, Fr N a L → WS B w its ps → ∃ i w', (execOp a.eval o).run P w = .ok (.value (val i)) w' ∧ (D.needs k = true → Below w.heap.size w w') ∧ WS B w' (its' i) (ps' i))
    (h : ∀ i, Jl P N B D (k + 1) ops Q rest ((d, val i) :: L) (its' i) (ps' i)) (hD : D.takes k = false := by rfl) : Jl P N B D k ops Q (o :: rest) L its ps := by
  refine ⟨?_⟩
  intro a w hf hW
  obtain ⟨i, w', hr, hb, hW'⟩ := h1 a w hf hW
  unfold runG
  rw [if_neg (by rw [hD]; simp), if_pos (hf.wants hw)]
  unfold Oper.wp
  rw [hr, Oper.upon_value, hd]
  exact ⟨hb, h i _ _ (hf.put hN _) hW'⟩
theorem Jl.un (its' : List Item) (hw : wants ops L o = some true) (hd : o.dst = none)
    (h1 : ∀ a w, Fr N a L → WS B w its ps → ∃ w', (execOp a.eval o).run P w = .ok .skip w' ∧ WS B w' its' ps)
    (h : Jl P N B D (k + 1) ops Q rest L its' ps) (hD : D.takes k = false := by rfl) (hE : D.needs k = false := by rfl) : Jl P N B D k ops Q (o :: rest) L its ps := by
  refine ⟨?_⟩
  intro a w hf hW
  obtain ⟨w', hr, hW'⟩ := h1 a w hf hW
  unfold runG
  rw [if_neg (by rw [hD]; simp), if_pos (hf.wants hw)]
  unfold Oper.wp
  rw [hr, Oper.upon_skip, hd]
  exact ⟨fun h' => (by rw [hE] at h'; cases h'), h _ _ (hf.put_none _) hW'⟩
/-- What yields and touches nothing. -/
theorem Jl.yd (hy : Yd P N B o v L its ps) (hw : wants ops L o = some true) (hd : o.dst = some d) (hN : Nat.blt d N = true) (h : Jl P N B D (k + 1) ops Q rest ((d, v) :: L) its ps) : Jl P N B D k ops Q (o :: rest) L its ps := by
  refine ⟨?_⟩
  intro a w hf hW
  unfold runG
  by_cases ht : D.takes k = true
  · rw [if_pos ht]
    refine ⟨v, .inl ⟨hf.wants hw, fun W hb => hy a W hf (hW.call hb)⟩, ?_⟩
    rw [hd]
    exact h _ _ (hf.put hN _) hW
  · rw [if_neg ht, if_pos (hf.wants hw)]
    unfold Oper.wp
    rw [hy a w hf hW, Oper.upon_value, hd]
    exact ⟨fun _ => Below.refl _ _, h _ _ (hf.put hN _) hW⟩
/-- Not carried out. -/
theorem Jl.off (hw : wants ops L o = some false) (hd : o.dst = some d) (hN : Nat.blt d N = true) (h : Jl P N B D (k + 1) ops Q rest ((d, undef) :: L) its ps) : Jl P N B D k ops Q (o :: rest) L its ps := by
  refine ⟨?_⟩
  intro a w hf hW
  unfold runG
  by_cases ht : D.takes k = true
  · rw [if_pos ht]
    refine ⟨undef, .inr ⟨hf.wants hw, rfl⟩, ?_⟩
    rw [hd]
    exact h _ _ (hf.put hN _) hW
  · rw [if_neg ht, if_neg (by rw [hf.wants hw]; simp), hd]
    exact h _ _ (hf.put hN _) hW
theorem Jl.off0 (hw : wants ops L o = some false) (hd : o.dst = none) (h : Jl P N B D (k + 1) ops Q rest L its ps) : Jl P N B D k ops Q (o :: rest) L its ps := by
  refine ⟨?_⟩
  intro a w hf hW
  unfold runG
  by_cases ht : D.takes k = true
  · rw [if_pos ht]
    refine ⟨undef, .inr ⟨hf.wants hw, rfl⟩, ?_⟩
    rw [hd]
    exact h _ _ (hf.put_none _) hW
  · rw [if_neg ht, if_neg (by rw [hf.wants hw]; simp), hd]
    exact h _ _ (hf.put_none _) hW
/-- A Bool in a slot: both cases. -/
theorem Jl.split (t : Nat) (hb : lk L t = some (.bool b)) (ht : b = true → Jl P N B D k ops Q rest ((t, .bool true) :: L) its ps) (hf : b = false → Jl P N B D k ops Q rest ((t, .bool false) :: L) its ps) : Jl P N B D k ops Q rest L its ps := by
  refine ⟨?_⟩
  intro a w hF hW
  cases hb' : b with
  | true => exact ht hb' a w ⟨hF.size, hF.defers, fun s u hs => by
      unfold lk at hs
      by_cases e : t = s
      · subst e
        rw [show Nat.beq t t = true by simp] at hs
        rw [hF.at_ t _ hb, hb']; simpa using hs
      · rw [beq_no e] at hs; exact hF.at_ s u hs⟩ hW
  | false => exact hf hb' a w ⟨hF.size, hF.defers, fun s u hs => by
      unfold lk at hs
      by_cases e : t = s
      · subst e
        rw [show Nat.beq t t = true by simp] at hs
        rw [hF.at_ t _ hb, hb']; simpa using hs
      · rw [beq_no e] at hs; exact hF.at_ s u hs⟩ hW
def gslot (ops : Array Oper) (o : Oper) : Option Nat := match o.guard with
  | none => none
  | some (j, _) => (ops[j]?).bind (·.dst)
/-- The guard of what comes next: both cases. -/
theorem Jl.splitG (hg : gslot ops o = some t) (hb : lk L t = some (.bool b)) (ht : b = true → Jl P N B D k ops Q (o :: rest) ((t, .bool true) :: L) its ps) (hf : b = false → Jl P N B D k ops Q (o :: rest) ((t, .bool false) :: L) its ps) : Jl P N B D k ops Q (o :: rest) L its ps := Jl.split t hb ht hf
/-- What stands in a slot, said otherwise. -/
theorem Jl.as (t : Nat) (v : Value) (hb : lk L t = some v2) (e : v2 = v) (h : Jl P N B D k ops Q rest ((t, v) :: L) its ps) : Jl P N B D k ops Q rest L its ps := by
  subst e
  refine ⟨?_⟩
  intro a w hF hW
  exact h a w ⟨hF.size, hF.defers, fun s x hs => by
      unfold lk at hs
      by_cases e : t = s
      · subst e
        rw [show Nat.beq t t = true by simp] at hs
        rw [hF.at_ t _ hb]; simpa using hs
      · rw [beq_no e] at hs; exact hF.at_ s x hs⟩ hW
def arOp : BinOp → Int → Int → Option Int
  | .add, p, q => some (p + q)
  | .sub, p, q => some (p - q)
  | .mul, p, q => some (p * q)
  | _, _, _ => none
def rlOp : BinOp → Int → Int → Option Prop
  | .eql, p, q => some (p = q)
  | .neq, p, q => some (p ≠ q)
  | .lss, p, q => some (p < q)
  | .leq, p, q => some (p ≤ q)
  | .gtr, p, q => some (p > q)
  | .geq, p, q => some (p ≥ q)
  | _, _, _ => none
def dcOp : BinOp → Int → Int → Option Bool
  | .eql, p, q => some (decide (p = q))
  | .neq, p, q => some (decide (p ≠ q))
  | .lss, p, q => some (decide (p < q))
  | .leq, p, q => some (decide (p ≤ q))
  | .gtr, p, q => some (decide (p > q))
  | .geq, p, q => some (decide (p ≥ q))
  | _, _, _ => none
def bbOp : BinOp → Bool → Bool → Option Bool
  | .eql, p, q => some (p == q)
  | .neq, p, q => some (p != q)
  | _, _, _ => none
namespace Y
variable {x y z : Operand}
theorem mv (hop : o.op = .move x) (hx : ev L x = some v) : Yd P N B o v L its ps := .mk <| fun a w hf _ => by
  unfold execOp; rw [hop]; simp [hf.ev hx]
theorem asg (hop : o.op = .assign x) (hx : ev L x = some v) : Yd P N B o v L its ps := .mk <| fun a w hf _ => by
  unfold execOp; rw [hop]; simp [hf.ev hx]
theorem pickT (hop : o.op = .pick x y z) (hx : ev L x = some (.bool true)) (hy : ev L y = some v) : Yd P N B o v L its ps := .mk <| fun a w hf _ => by
  unfold execOp; rw [hop]; simp [hf.ev hx, hf.ev hy, asBool]
theorem pickF (hop : o.op = .pick x y z) (hx : ev L x = some (.bool false)) (hz : ev L z = some v) : Yd P N B o v L its ps := .mk <| fun a w hf _ => by
  unfold execOp; rw [hop]; simp [hf.ev hx, hf.ev hz, asBool]
theorem ext {us : List Value} {i : Nat} (hop : o.op = .extract x i) (hx : ev L x = some (.tuple us.toArray)) (hv : us[i]? = some v) : Yd P N B o v L its ps := .mk <| fun a w hf _ => by
  unfold execOp; rw [hop]; simp [hf.ev hx, Instr.extract, hv]
/-- A binary operation on two numbers, or Bools, or texts: what it yields is told by its own run. -/
theorem bin {op : BinOp} {tx ty : TypeId} {p q : Value} (hop : o.op = .binOp op tx x y ty) (hx : ev L x = some p) (hy : ev L y = some q) (hr : ∀ w, (do eqGuard op tx x y p q; binOp op tx p q : Sem Value).run P w = .ok v w) : Yd P N B o v L its ps := .mk <| fun a w hf _ => by
  unfold execOp; rw [hop]; simp only [hf.ev hx, hf.ev hy]
  rw [Sem.run_bind, hr w]; rfl
theorem un {op : UnOp} {tx : TypeId} {p : Value} (hop : o.op = .unOp op tx x) (hx : ev L x = some p) (hr : ∀ w, (Op.unary op p).run P w = .ok v w) : Yd P N B o v L its ps := .mk <| fun a w hf _ => by
  unfold execOp; rw [hop]; simp only [hf.ev hx]
  rw [Sem.run_bind, hr w]; rfl
theorem cmp {op : BinOp} {tx ty : TypeId} {k : IntKind} {p q : Int} (hop : o.op = .binOp op tx x y ty) (hx : ev L x = some (.int k p)) (hy : ev L y = some (.int k q)) (hr : dcOp op p q = some b) : Yd P N B o (.bool b) L its ps := by
  refine bin hop hx hy (fun w => ?_)
  have e1 : (p == q) = decide (p = q) := by simp [BEq.beq]
  have e2 : (p != q) = decide (p ≠ q) := by simp [bne, e1]
  cases op <;> simp only [arOp, rlOp, dcOp, bbOp, Option.some.injEq, reduceCtorEq] at hr <;> subst hr <;> simp [eqGuard, binOp, Op.intCmp, e1, e2]
theorem cmpF {op : BinOp} {tx ty : TypeId} {k : IntKind} {p q : Int} {φ : Prop} (hop : o.op = .binOp op tx x y ty) (hx : ev L x = some (.int k p)) (hy : ev L y = some (.int k q)) (hr : rlOp op p q = some φ) (hn : ¬ φ) : Yd P N B o (.bool false) L its ps := by
  refine cmp (P := P) (N := N) (B := B) (its := its) (ps := ps) hop hx hy ?_
  cases op <;> simp only [arOp, rlOp, dcOp, bbOp, Option.some.injEq, reduceCtorEq] at hr ⊢ <;> subst hr <;> exact decide_eq_false hn
theorem cmpT {op : BinOp} {tx ty : TypeId} {k : IntKind} {p q : Int} {φ : Prop} (hop : o.op = .binOp op tx x y ty) (hx : ev L x = some (.int k p)) (hy : ev L y = some (.int k q)) (hr : rlOp op p q = some φ) (hn : φ) : Yd P N B o (.bool true) L its ps := by
  refine cmp (P := P) (N := N) (B := B) (its := its) (ps := ps) hop hx hy ?_
  cases op <;> simp only [arOp, rlOp, dcOp, bbOp, Option.some.injEq, reduceCtorEq] at hr ⊢ <;> subst hr <;> exact decide_eq_true hn
theorem cmpB {op : BinOp} {tx ty : TypeId} {p q : Bool} (ht : P.underlying tx = some .bool) (hop : o.op = .binOp op tx x y ty) (hx : ev L x = some (.bool p)) (hy : ev L y = some (.bool q)) (hr : bbOp op p q = some b) : Yd P N B o (.bool b) L its ps := by
  refine bin hop hx hy (fun w => ?_)
  have h1 := run_eql_bool (P := P) (w := w) tx p q ht
  have h2 := run_neq_bool (P := P) (w := w) tx p q ht
  cases op <;> simp only [arOp, rlOp, dcOp, bbOp, Option.some.injEq, reduceCtorEq] at hr <;> subst hr
  · rw [Sem.run_bind]; simp [eqGuard, h1]
  · rw [Sem.run_bind]; simp [eqGuard, h2]; cases p <;> cases q <;> rfl
theorem arith {op : BinOp} {tx ty : TypeId} {k : IntKind} {p q r : Int} (hop : o.op = .binOp op tx x y ty) (hx : ev L x = some (.int k p)) (hy : ev L y = some (.int k q)) (hr : arOp op p q = some r) : Yd P N B o (.int k (k.wrap r)) L its ps := by
  refine bin hop hx hy (fun w => ?_)
  cases op <;> simp only [arOp, rlOp, dcOp, bbOp, Option.some.injEq, reduceCtorEq] at hr <;> subst hr <;> simp [eqGuard, binOp, Op.intArith]
theorem neqB {tx ty : TypeId} {p : Bool} (hop : o.op = .binOp .neq tx x y ty) (hx : ev L x = some (.bool p)) (hy : ev L y = some (.bool p)) (ht : P.underlying tx = some .bool) : Yd P N B o (.bool false) L its ps :=
  cmpB ht hop hx hy (by simp [bbOp])
theorem arith64 {op : BinOp} {tx ty : TypeId} {p q r : Int} (hop : o.op = .binOp op tx x y ty) (hx : ev L x = some (.int .i64 p)) (hy : ev L y = some (.int .i64 q)) (hr : arOp op p q = some r) : Yd P N B o (.int .i64 (wrap64 r)) L its ps := by
  have := arith (P := P) (N := N) (B := B) (its := its) (ps := ps) hop hx hy hr
  rw [IntKind.wrap_i64] at this
  unfold wrap64
  exact this
/-- 64 bits, within bounds. -/
theorem arithN {op : BinOp} {tx ty : TypeId} {p q r : Int} (hop : o.op = .binOp op tx x y ty) (hx : ev L x = some (.int .i64 p)) (hy : ev L y = some (.int .i64 q)) (hr : arOp op p q = some r) (hb : -9223372036854775808 ≤ r ∧ r ≤ 9223372036854775807) : Yd P N B o (.int .i64 r) L its ps := by
  have := arith (P := P) (N := N) (B := B) (its := its) (ps := ps) hop hx hy hr
  rw [IntKind.wrap_i64] at this
  have e : (r + 9223372036854775808) % 18446744073709551616 - 9223372036854775808 = r := by omega
  rwa [e] at this
theorem not (hop : o.op = .unOp .not T x) (hx : ev L x = some (.bool b)) : Yd P N B o (.bool (!b)) L its ps := un hop hx (fun w => by simp [Op.unary])
theorem lenS {ts : Array TypeId} {A : Option Addr} {m c e : Nat} (ht : P.underlying T = some (.slice e)) (hop : o.op = .call { callee := .builtin .len, args := #[x], argTypes := ts }) (hts : ts[0]? = some T) (hx : ev L x = some (.slice A m c)) : Yd P N B o (.int .i64 m) L its ps := .mk <| fun a w hf _ => by
  unfold execOp; rw [hop]
  simp [resolve, invoke, builtin, Builtin.len_, hts, hf.ev hx, run_underlying ht, goInt]
end Y
end
end Go.Proofs.YthmgiagecgkmiaaDoorW.SL
