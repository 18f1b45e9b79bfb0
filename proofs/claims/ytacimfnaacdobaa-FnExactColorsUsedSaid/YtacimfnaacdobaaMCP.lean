import Derived.Test.YtacimfnaacdobaaMA
import Derived.Test.YtacimfnaacdobaaXCU
import Derived.Test.YtacimfnaacdobaaQx10
import Derived.Test.YtacimfnaacdobaaQx11
import Derived.Test.YtacimfnaacdobaaQx13
import Derived.Test.YtacimfnaacdobaaQx8888801
namespace Go.Proofs.Ytacimfnaacdobaa.M
open Go.RowKit Go.Proofs.Ytacimfnaacdobaa.Q Go.Proofs.YtacimfnaacdobaaW.PrintWords Go.Proofs.YtacimfnaacdobaaW.PrintLast Go.Proofs.YtacimfnaacdobaaW.Pl Classical
set_option linter.unusedSimpArgs false
set_option linter.unusedVariables false
theorem rdI (l : List Int) (i : Nat) : rd l (i : Int) = nth l i 0 := by unfold rd nth; simp
theorem eqInts (l : List Int) (hm : l.length ≤ 1048576) : Ev (fun k => laws_eqIntS.f k l l) true := by
  unfold laws_eqIntS.f
  simp only [if_true]
  have h := scanE l.length (fun _ => true) true false (fun k i => laws_eqIntS.l0 k l l i) ?hs ?hb ?he
  case hs =>
    intro i r hi _ hr
    refine Ev.succ ?_
    simp only [laws_eqIntS.l0, if_pos (show (i : Int) < (l.length : Int) by omega), if_pos (show (0 : Int) ≤ (i : Int) by omega), if_true, w64 (x := (i : Int) + 1) (by omega)]
    exact hr
  case hb => intro i _ h; cases h
  case he =>
    refine Ev.succ ?_
    simp only [laws_eqIntS.l0, if_neg (show ¬ ((l.length : Int) < (l.length : Int)) by omega)]
    exact Ev.now _
  simpa using h
def marks (n : Nat) : List Int := (List.range n).map fun j => ((j + 1 : Nat) : Int)
theorem marks_len (n : Nat) : (marks n).length = n := by unfold marks; simp
theorem marks_nth (n i : Nat) (h : i < n) : nth (marks n) i 0 = ((i + 1 : Nat) : Int) := by rw [nth_get (by rw [marks_len]; exact h)]; unfold marks; simp
theorem markInts (l : List Int) (hm : l.length ≤ 1048576) : Ev (fun k => laws_markIntS.f k l 1) (((l.length + 1 : Nat) : Int), marks l.length) := by
  have main : ∀ d (i : Nat) (a : List Int), a.length = l.length → l.length - i = d → i ≤ l.length → (∀ j, j < i → nth a j 0 = ((j + 1 : Nat) : Int)) → Ev (fun k => laws_markIntS.l0 k a ((i + 1 : Nat) : Int) (i : Int)) (((l.length + 1 : Nat) : Int), marks l.length) := by
    intro d
    induction d with
    | zero =>
      intro i a ha hd hi hj
      have hil : i = l.length := by omega
      refine Ev.succ ?_
      simp only [laws_markIntS.l0, if_neg (show ¬ ((i : Int) < (a.length : Int)) by omega)]
      have e : a = marks l.length := by
        apply List.ext_getElem (by rw [ha, marks_len])
        intro j h1 h2
        rw [marks_len] at h2
        have := hj j (by omega)
        rw [nth_get h1] at this
        have h3 := marks_nth l.length j h2
        rw [nth_get (by rw [marks_len]; exact h2)] at h3
        rw [this, h3]
      rw [e, hil]
      exact Ev.now _
    | succ d ih =>
      intro i a ha hd hi hj
      refine Ev.succ ?_
      simp only [laws_markIntS.l0, if_pos (show (i : Int) < (a.length : Int) by omega), if_pos (show (0 : Int) ≤ (i : Int) by omega), (show wrap64 ((i : Int) + 1) = ((i + 1 : Nat) : Int) by rw [w64 (by omega)]; omega), (show wrap64 (((i + 1 : Nat) : Int) + 1) = ((i + 1 + 1 : Nat) : Int) by rw [w64 (by omega)]; omega), Int.toNat_natCast]
      refine ih (i + 1) _ (by simp [ha]) (by omega) (by omega) (fun j hj2 => ?_)
      rw [nth_get (by simp; omega)]
      by_cases e : j = i
      · subst e; simp
      · rw [List.getElem_set_ne (by omega)]
        have := hj j (by omega)
        rwa [nth_get (by omega)] at this
  exact main l.length 0 l rfl (by omega) (by omega) (fun j hj => by omega)
theorem heldInts (n : Nat) (hm : n ≤ 1048576) : Ev (fun k => laws_heldIntS.f k (marks n) 1) ((n + 1 : Nat) : Int) := by
  have main : ∀ d (i : Nat), n - i = d → i ≤ n → Ev (fun k => laws_heldIntS.l0 k (marks n) ((i + 1 : Nat) : Int) (i : Int)) ((n + 1 : Nat) : Int) := by
    have hl := marks_len n
    intro d
    induction d with
    | zero =>
      intro i hd hi
      have hil : i = n := by omega
      refine Ev.succ ?_
      simp only [laws_heldIntS.l0, if_neg (show ¬ ((i : Int) < ((marks n).length : Int)) by omega)]
      rw [hil]
      exact Ev.now _
    | succ d ih =>
      intro i hd hi
      refine Ev.succ ?_
      simp only [laws_heldIntS.l0, if_pos (show (i : Int) < ((marks n).length : Int) by omega), if_pos (show (0 : Int) ≤ (i : Int) by omega), rdI, marks_nth n i (by omega), if_true, (show wrap64 ((i : Int) + 1) = ((i + 1 : Nat) : Int) by rw [w64 (by omega)]; omega), (show wrap64 (((i + 1 : Nat) : Int) + 1) = ((i + 1 + 1 : Nat) : Int) by rw [w64 (by omega)]; omega)]
      exact ih (i + 1) (by omega) (by omega)
  exact main n 0 (by omega) (by omega)
theorem markIntsFrom (l : List Int) (hm : l.length ≤ 1048576) (m : Nat) (hmb : m ≤ 4398046511104) : ∃ p : Int × List Int, p.1 = ((m + l.length : Nat) : Int) ∧ p.2.length = l.length ∧ Ev (fun k => laws_markIntS.f k l (m : Int)) p := by
  have main : ∀ d (i : Nat) (a : List Int), a.length = l.length → l.length - i = d → i ≤ l.length → ∃ p : Int × List Int, p.1 = ((m + l.length : Nat) : Int) ∧ p.2.length = l.length ∧ Ev (fun k => laws_markIntS.l0 k a ((m + i : Nat) : Int) (i : Int)) p := by
    intro d
    induction d with
    | zero =>
      intro i a ha hd hi
      have hil : i = l.length := by omega
      refine ⟨(((m + l.length : Nat) : Int), a), rfl, ha, Ev.succ ?_⟩
      simp only [laws_markIntS.l0, if_neg (show ¬ ((i : Int) < (a.length : Int)) by omega)]
      rw [hil]
      exact Ev.now _
    | succ d ih =>
      intro i a ha hd hi
      obtain ⟨p, h1, h2, h3⟩ := ih (i + 1) (a.set i ((m + i : Nat) : Int)) (by simp [ha]) (by omega) (by omega)
      refine ⟨p, h1, h2, Ev.succ ?_⟩
      simp only [laws_markIntS.l0, if_pos (show (i : Int) < (a.length : Int) by omega), if_pos (show (0 : Int) ≤ (i : Int) by omega), stepI i (by omega), stepI (m + i) (by omega), Int.toNat_natCast]
      exact h3
  exact main l.length 0 l rfl (by omega) (by omega)
theorem markStepDesign (l : List S36) (m i : Int) (h0 : 0 ≤ i) (h1 : i < (l.length : Int)) : ∃ b : List S36, b.length = l.length ∧ ∀ k, laws_markDesignS.l0 (k + 1) l m i = laws_markDesignS.l0 k b (wrap64 ((wrap64 ((wrap64 ((wrap64 (m + 1)) + 1)) + 1)) + 1)) (wrap64 (i + 1)) := by
  simp only [laws_markDesignS.l0, if_pos h1, if_pos h0]
  generalize (i.toNat) = j
  refine bindLen _ _ (fun b k => laws_markDesignS.l0 k b _ _) (by rw [List.length_set]) (fun b1 hb1 => ?_)
  refine bindLen _ _ (fun b k => laws_markDesignS.l0 k b _ _) (by rw [List.length_set]; exact hb1) (fun b2 hb2 => ?_)
  refine bindLen _ _ (fun b k => laws_markDesignS.l0 k b _ _) (by rw [List.length_set]; exact hb2) (fun b3 hb3 => ?_)
  exact ⟨_, by rw [List.length_set]; exact hb3, fun _ => rfl⟩
theorem markDesigns (l : List S36) (hm : l.length ≤ 1048576) : ∃ l', Ev (fun k => laws_markDesignS.f k l 1) (((4 * l.length + 1 : Nat) : Int), l') := by
  have main : ∀ d (i m : Nat) (a : List S36), m = 4 * i + 1 → a.length = l.length → l.length - i = d → i ≤ l.length → ∃ l', Ev (fun k => laws_markDesignS.l0 k a (m : Int) (i : Int)) (((4 * l.length + 1 : Nat) : Int), l') := by
    intro d
    induction d with
    | zero =>
      intro i m a hmi ha hd hi
      have hil : i = l.length := by omega
      refine ⟨a, Ev.succ ?_⟩
      simp only [laws_markDesignS.l0, if_neg (show ¬ ((i : Int) < (a.length : Int)) by omega)]
      rw [hmi, hil]
      exact Ev.now _
    | succ d ih =>
      intro i m a hmi ha hd hi
      have hb1 : m < 4611686018427380000 := by omega
      obtain ⟨b, hb, hs⟩ := markStepDesign a (m : Int) (i : Int) (by omega) (by omega)
      rw [stepI (m) (by omega), stepI (m + 1) (by omega), stepI (m + 1 + 1) (by omega), stepI (m + 1 + 1 + 1) (by omega), stepI i (by omega)] at hs
      obtain ⟨l', h⟩ := ih (i + 1) (m + 1 + 1 + 1 + 1) b (by clear hs; omega) (by clear hs; omega) (by clear hs; omega) (by clear hs; omega)
      refine ⟨l', Ev.succ ?_⟩
      have : (fun k => laws_markDesignS.l0 (k + 1) a (m : Int) (i : Int)) = (fun k => laws_markDesignS.l0 k b ((m + 1 + 1 + 1 + 1 : Nat) : Int) ((i + 1 : Nat) : Int)) := funext hs
      rw [this]
      exact h
  exact main l.length 0 1 l rfl rfl (by omega) (by omega)

/-! #### the reference's loop -/
open Go.Proofs.Ytacimfnaacdobaa.CU in
theorem put_cons (a : Int) (l : List Int) (n : Int) : Put.put (a :: l) n = if a < n then a :: Put.put l n else n :: a :: l := by
  unfold Put.put
  rw [Put.pos_cons]
  split <;> simp
open Go.Proofs.Ytacimfnaacdobaa.CU in
theorem put_mem (n x : Int) : ∀ l : List Int, x ∈ Put.put l n ↔ x = n ∨ x ∈ l
  | [] => by simp [Put.put, Put.pos]
  | a :: l => by
    rw [put_cons]
    split
    · rw [List.mem_cons, put_mem n x l, List.mem_cons]
      constructor
      · rintro (h | h | h)
        · exact .inr (.inl h)
        · exact .inl h
        · exact .inr (.inr h)
      · rintro (h | h | h)
        · exact .inr (.inl h)
        · exact .inl h
        · exact .inr (.inr h)
    · rw [List.mem_cons]
open Go.Proofs.Ytacimfnaacdobaa.CU in
theorem put_asc (n : Int) : ∀ l : List Int, l.Pairwise (fun a b => a < b) → n ∉ l → (Put.put l n).Pairwise (fun a b => a < b)
  | [], _, _ => by simp [Put.put, Put.pos]
  | a :: l, h, hn => by
    rw [List.pairwise_cons] at h
    simp only [List.mem_cons, not_or] at hn
    rw [put_cons]
    split
    · rename_i ha
      rw [List.pairwise_cons]
      refine ⟨fun x hx => ?_, put_asc n l h.2 hn.2⟩
      rcases (put_mem n x l).1 hx with rfl | hx
      · exact ha
      · exact h.1 x hx
    · rename_i ha
      rw [List.pairwise_cons, List.pairwise_cons]
      refine ⟨fun x hx => ?_, h⟩
      rcases List.mem_cons.1 hx with rfl | hx
      · omega
      · have := h.1 x hx
        omega
open Go.Proofs.Ytacimfnaacdobaa.CU in
theorem put_len (l : List Int) (n : Int) : (Put.put l n).length = l.length + 1 := by
  have := Put.pos_le n l
  unfold Put.put
  rw [List.length_append, List.length_cons, List.length_take, List.length_drop]
  omega
open Go.Proofs.Ytacimfnaacdobaa.CU in
/-- What the reference does with one design. -/
def ins (acc : List Int) (x : S36) : List Int := match Col.colOf x with
  | some c => if 0 ≤ c then (if c ∈ acc then acc else Put.put acc c) else acc
  | none => acc
theorem ins_len (acc : List Int) (x : S36) : (ins acc x).length ≤ acc.length + 1 := by
  unfold ins
  split
  · repeat' split
    all_goals first | omega | (rw [put_len]; omega)
  · omega
theorem hasInts (l : List Int) (c : Int) (hm : l.length ≤ 2097152) : Ev (fun k => spec_l1Has.f k l c) (decide (c ∈ l)) := by
  unfold spec_l1Has.f
  have h := scanE l.length (fun i => decide (nth l i 0 ≠ c)) false true (fun k i => spec_l1Has.l0 k l c i) ?hs ?hb ?he
  case hs =>
    intro i r hi ho hr
    refine Ev.succ ?_
    have hne : ¬ nth l i 0 = c := of_decide_eq_true ho
    simp only [spec_l1Has.l0, rdI, if_pos (show (i : Int) < (l.length : Int) by omega), if_pos (show (0 : Int) ≤ (i : Int) by omega), if_neg hne, w64 (x := (i : Int) + 1) (by omega)]
    exact hr
  case hb =>
    intro i hi ho
    refine Ev.succ ?_
    have heq : nth l i 0 = c := by simpa using ho
    simp only [spec_l1Has.l0, rdI, if_pos (show (i : Int) < (l.length : Int) by omega), if_pos (show (0 : Int) ≤ (i : Int) by omega), if_pos heq]
    exact Ev.now _
  case he =>
    refine Ev.succ ?_
    simp only [spec_l1Has.l0, if_neg (show ¬ ((l.length : Int) < (l.length : Int)) by omega)]
    exact Ev.now _
  have e : (if (List.range l.length).all (fun i => decide (nth l i 0 ≠ c)) = true then false else true) = decide (c ∈ l) := by
    by_cases hc : c ∈ l
    · rw [decide_eq_true hc, if_neg]
      intro hall
      obtain ⟨i, hi, rfl⟩ := List.getElem_of_mem hc
      have := List.all_eq_true.1 hall i (List.mem_range.2 hi)
      rw [nth_get hi] at this
      simp at this
    · rw [decide_eq_false hc, if_pos]
      refine List.all_eq_true.2 (fun i hi => ?_)
      have hi := List.mem_range.1 hi
      rw [nth_get hi]
      exact decide_eq_true (fun e => hc (e ▸ List.getElem_mem hi))
  rw [e] at h
  exact h
theorem sLoop (l : List S36) (hm : l.length ≤ 1048576) : ∀ d (i : Nat) (acc : List Int), l.length - i = d → i ≤ l.length → acc.length ≤ i → Ev (fun k => spec_ColorsUsed.l0 k l acc (i : Int)) ((l.drop i).foldl ins acc, true) := by
  intro d
  induction d with
  | zero =>
    intro i acc hd hi ha
    obtain rfl : i = l.length := by omega
    refine Ev.succ ?_
    simp only [spec_ColorsUsed.l0, if_neg (show ¬ ((l.length : Int) < (l.length : Int)) by omega), List.drop_length, List.foldl_nil]
    exact Ev.now _
  | succ d ih =>
    intro i acc hd hi ha
    have hlt : i < l.length := by omega
    have hil := ins_len acc l[i]
    have ih := ih (i + 1) (ins acc l[i]) (by omega) (by omega) (by omega)
    rw [List.drop_eq_getElem_cons hlt, List.foldl_cons]
    have hst := stepI i (by omega)
    refine Ev.succ ?_
    simp only [spec_ColorsUsed.l0, rd36, nth_get hlt, if_pos (show (i : Int) < (l.length : Int) by omega), if_pos (show (0 : Int) ≤ (i : Int) by omega)]
    have key : ∀ c, (∀ q, (if 0 ≤ c then (if c ∈ acc then acc else Go.Proofs.Ytacimfnaacdobaa.CU.Put.put acc c) else acc) = q → q = ins acc l[i]) → Ev (fun k => spec_ColorsUsed.j1 k l acc (i : Int) c) ((l.drop (i + 1)).foldl ins (ins acc l[i]), true) := by
      intro c hc
      refine Ev.succ ?_
      simp only [spec_ColorsUsed.j1, hst]
      by_cases h0 : c ≥ 0
      · simp only [if_pos h0]
        have h0' : 0 ≤ c := h0
        simp only [if_pos h0'] at hc
        refine Ev.bind (hasInts acc c (by omega)) ?_
        by_cases hcm : c ∈ acc
        · simp only [decide_eq_true hcm, if_true]
          simp only [if_pos hcm] at hc
          rw [← hc _ rfl] at ih ⊢
          exact ih
        · simp only [decide_eq_false hcm, Bool.false_eq_true, if_false]
          simp only [if_neg hcm] at hc
          refine Ev.bindc (a := Go.Proofs.Ytacimfnaacdobaa.CU.Put.put acc c) (by unfold spec_l1Put.f; rw [if_pos ⟨by omega, hcm⟩]) ?_
          rw [← hc _ rfl] at ih ⊢
          exact ih
      · simp only [if_neg h0]
        simp only [if_neg (show ¬ 0 ≤ c from h0)] at hc
        rw [← hc _ rfl] at ih ⊢
        exact ih
    by_cases h1 : l[i].f0 = 1
    · simp only [if_pos h1]
      refine key _ (fun q hq => ?_)
      rw [← hq]; simp [ins, Go.Proofs.Ytacimfnaacdobaa.CU.Col.colOf, h1]
    · by_cases h6 : l[i].f0 = 6
      · simp only [if_neg h1, if_pos h6]
        refine key _ (fun q hq => ?_)
        rw [← hq]; simp [ins, Go.Proofs.Ytacimfnaacdobaa.CU.Col.colOf, h6]
      · simp only [if_neg h1, if_neg h6]
        refine key _ (fun q hq => ?_)
        rw [← hq]; simp [ins, Go.Proofs.Ytacimfnaacdobaa.CU.Col.colOf, h1, h6]
/-! #### the library's rows -/
theorem asc_ext : ∀ {a b : List Int}, a.Pairwise (fun x y => x < y) → b.Pairwise (fun x y => x < y) → (∀ x, x ∈ a ↔ x ∈ b) → a = b
  | [], [], _, _, _ => rfl
  | [], y :: b, _, _, h => by have := (h y).2 (.head _); cases this
  | x :: a, [], _, _, h => by have := (h x).1 (.head _); cases this
  | x :: a, y :: b, ha, hb, h => by
    rw [List.pairwise_cons] at ha hb
    have e : x = y := by
      rcases List.mem_cons.1 ((h x).1 (.head _)) with e | e
      · exact e
      · rcases List.mem_cons.1 ((h y).2 (.head _)) with e2 | e2
        · exact e2.symm
        · have := hb.1 x e; have := ha.1 y e2; omega
    subst e
    congr 1
    refine asc_ext ha.2 hb.2 (fun z => ?_)
    constructor
    · intro hz
      have := ha.1 z hz
      rcases List.mem_cons.1 ((h z).1 (.tail _ hz)) with e | e
      · omega
      · exact e
    · intro hz
      have := hb.1 z hz
      rcases List.mem_cons.1 ((h z).2 (.tail _ hz)) with e | e
      · omega
      · exact e
theorem comp_inv (d : Array Int) (hs : ∀ i j, i ≤ j → j < d.size → d[i]! ≤ d[j]!) : ∀ m, m ≤ d.size → (Go.Lib.compactUpTo d m).Pairwise (fun x y => x < y) ∧ ∀ x, x ∈ Go.Lib.compactUpTo d m ↔ ∃ j, j < m ∧ d[j]! = x := by
  intro m
  induction m with
  | zero => intro _; exact ⟨by simp [Go.Lib.compactUpTo], fun x => by simp [Go.Lib.compactUpTo]⟩
  | succ m ih =>
    intro hm
    obtain ⟨h1, h2⟩ := ih (by omega)
    rw [Go.Lib.compactUpTo_succ]
    by_cases hk : m = 0 ∨ d[m]! ≠ d[m - 1]!
    · have hkk : Go.Lib.keeps d m = true := by unfold Go.Lib.keeps; exact decide_eq_true hk
      rw [if_pos hkk]
      refine ⟨List.pairwise_append.2 ⟨h1, List.pairwise_singleton _ _, fun x hx y hy => ?_⟩, fun x => ?_⟩
      · rw [List.mem_singleton.1 hy]
        obtain ⟨j, hj, rfl⟩ := (h2 x).1 hx
        have g1 := hs j (m - 1) (by omega) (by omega)
        have g2 := hs (m - 1) m (by omega) (by omega)
        have g3 := hk.resolve_left (by omega)
        omega
      · rw [List.mem_append, List.mem_singleton, h2]
        constructor
        · rintro (⟨j, hj, e⟩ | rfl)
          · exact ⟨j, by omega, e⟩
          · exact ⟨m, by omega, rfl⟩
        · rintro ⟨j, hj, e⟩
          by_cases hjm : j = m
          · subst hjm; exact .inr e.symm
          · exact .inl ⟨j, by omega, e⟩
    · have hkk : Go.Lib.keeps d m = false := by unfold Go.Lib.keeps; exact decide_eq_false hk
      rw [if_neg (by rw [hkk]; simp), List.append_nil]
      refine ⟨h1, fun x => ?_⟩
      rw [h2]
      have h0 : m ≠ 0 := fun e => hk (.inl e)
      have he : d[m]! = d[m - 1]! := Decidable.byContradiction fun e => hk (.inr e)
      constructor
      · rintro ⟨j, hj, e⟩; exact ⟨j, by omega, e⟩
      · rintro ⟨j, hj, e⟩
        by_cases hjm : j = m
        · subst hjm; exact ⟨j - 1, by omega, by rw [← he]; exact e⟩
        · exact ⟨j, by omega, e⟩
open Go.Proofs.YtacimfnaacdobaaW.SL in
theorem sorted_comp (xs : List Int) : (Go.Lib.compact (sortI xs)).Pairwise (fun x y => x < y) ∧ ∀ x, x ∈ Go.Lib.compact (sortI xs) ↔ x ∈ xs := by
  have hp : (sortI xs).Pairwise (fun x y => decide (x ≤ y) = true) := List.pairwise_mergeSort (le := fun x y => decide (x ≤ y)) (fun a b c h1 h2 => by simp only [decide_eq_true_eq] at *; omega) (fun a b => by simp only [Bool.or_eq_true, decide_eq_true_eq]; omega) xs
  have hmem : ∀ x, x ∈ sortI xs ↔ x ∈ xs := fun x => List.mem_mergeSort
  generalize sortI xs = ys at hp hmem
  have hget : ∀ (j : Nat) (h : j < ys.length), ys.toArray[j]! = ys[j] := fun j h => by simp [h]
  have h := comp_inv ys.toArray (fun i j hij hj => by
    have hj' : j < ys.length := by simpa using hj
    rw [hget i (by omega), hget j hj']
    rcases Nat.lt_or_ge i j with h | h
    · have := List.pairwise_iff_getElem.1 hp i j (by omega) hj' h
      exact of_decide_eq_true this
    · obtain rfl : i = j := by omega
      exact Int.le_refl _) ys.length (by simp)
  refine ⟨h.1, fun x => ?_⟩
  show x ∈ Go.Lib.compactUpTo ys.toArray ys.length ↔ _
  rw [h.2, ← hmem]
  constructor
  · rintro ⟨j, hj, rfl⟩
    rw [hget j hj]
    exact List.getElem_mem hj
  · intro hx
    obtain ⟨j, hj, rfl⟩ := List.getElem_of_mem hx
    exact ⟨j, hj, hget j hj⟩
open Go.Proofs.Ytacimfnaacdobaa.CU in
theorem ins_fold : ∀ (l : List S36) (acc : List Int), (∀ x ∈ l, ∀ c, Col.colOf x = some c → 0 ≤ c) → acc.Pairwise (fun x y => x < y) → (l.foldl ins acc).Pairwise (fun x y => x < y) ∧ ∀ x, x ∈ l.foldl ins acc ↔ x ∈ acc ∨ x ∈ Col.cols l
  | [], acc, _, h => ⟨h, fun x => by simp [Col.cols]⟩
  | y :: l, acc, hl, h => by
    rw [List.foldl_cons]
    have hi : (ins acc y).Pairwise (fun x y => x < y) ∧ ∀ x, x ∈ ins acc y ↔ x ∈ acc ∨ Col.colOf y = some x := by
      unfold ins
      cases hc : Col.colOf y with
      | none => exact ⟨h, fun x => by simp⟩
      | some c =>
        have h0 := hl y (.head _) c hc
        simp only [if_pos h0]
        by_cases hm : c ∈ acc
        · rw [if_pos hm]
          exact ⟨h, fun x => ⟨.inl, fun hx => hx.elim id (fun e => by injection e with e; exact e ▸ hm)⟩⟩
        · rw [if_neg hm]
          refine ⟨put_asc c acc h hm, fun x => ?_⟩
          rw [put_mem]
          constructor
          · rintro (rfl | hx)
            · exact .inr rfl
            · exact .inl hx
          · rintro (hx | e)
            · exact .inr hx
            · injection e with e; exact .inl e.symm
    obtain ⟨g1, g2⟩ := ins_fold l (ins acc y) (fun x hx => hl x (.tail _ hx)) hi.1
    refine ⟨g1, fun x => ?_⟩
    rw [g2, hi.2]
    have : x ∈ Col.cols (y :: l) ↔ Col.colOf y = some x ∨ x ∈ Col.cols l := by
      unfold Col.cols
      rw [List.mem_filterMap, List.mem_filterMap]
      constructor
      · rintro ⟨z, hz, e⟩
        rcases List.mem_cons.1 hz with rfl | hz
        · exact .inl e
        · exact .inr ⟨z, hz, e⟩
      · rintro (e | ⟨z, hz, e⟩)
        · exact ⟨y, .head _, e⟩
        · exact ⟨z, .tail _ hz, e⟩
    rw [this, or_assoc]
/-- Both texts name the same colors. -/
theorem colsBoth (l : List S36) (hm : l.length ≤ 1048576) : ∃ q : List Int × Bool, q.1.length ≤ 1048576 ∧ Ev (fun k => spec_ColorsUsed.f k l) q ∧ Ev (fun k => impl_ColorsUsed.f k l) q := by
  cases hg : goodD l with
  | false =>
    have hs := sGood l hm
    have hi := iGood l hm
    rw [hg] at hs hi
    refine ⟨([], false), by simp, ?_, ?_⟩
    · unfold spec_ColorsUsed.f
      simp only [Option.bind_some]
      refine Ev.bind hs ?_
      simp only [Bool.false_eq_true, if_false]
      exact Ev.now _
    · unfold impl_ColorsUsed.f
      refine Ev.bind hi ?_
      simp only [Bool.false_eq_true, if_false]
      exact Ev.now _
  | true =>
    have hs := sGood l hm
    have hi := iGood l hm
    rw [hg] at hs hi
    have hall : l.all okR = true := by
      unfold goodD at hg
      split at hg
      · assumption
      · cases hg
    have h0 : ∀ x ∈ l, ∀ c, Go.Proofs.Ytacimfnaacdobaa.CU.Col.colOf x = some c → 0 ≤ c := by
      intro x hx c hc
      have hk := List.all_eq_true.1 hall x hx
      have hk := of_decide_eq_true (show decide _ = true from hk)
      unfold Go.Proofs.Ytacimfnaacdobaa.CU.Col.colOf at hc
      split at hc
      · injection hc with hc; omega
      · split at hc
        · injection hc with hc; omega
        · cases hc
    obtain ⟨a1, a2⟩ := ins_fold l [] h0 List.Pairwise.nil
    obtain ⟨b1, b2⟩ := sorted_comp (Go.Proofs.Ytacimfnaacdobaa.CU.Col.cols l)
    have e := asc_ext a1 b1 (fun x => by rw [a2, b2]; simp)
    have hlen : (Go.Lib.compact (Go.Proofs.YtacimfnaacdobaaW.SL.sortI (Go.Proofs.Ytacimfnaacdobaa.CU.Col.cols l))).length ≤ 1048576 := by
      have g1 := Go.Proofs.YtacimfnaacdobaaW.SL.compact_len (Go.Proofs.YtacimfnaacdobaaW.SL.sortI (Go.Proofs.Ytacimfnaacdobaa.CU.Col.cols l))
      rw [Go.Proofs.YtacimfnaacdobaaW.SL.sortI_len] at g1
      have g2 : (Go.Proofs.Ytacimfnaacdobaa.CU.Col.cols l).length ≤ l.length := List.length_filterMap_le _ _
      omega
    refine ⟨(Go.Lib.compact (Go.Proofs.YtacimfnaacdobaaW.SL.sortI (Go.Proofs.Ytacimfnaacdobaa.CU.Col.cols l)), true), hlen, ?_, ?_⟩
    · unfold spec_ColorsUsed.f
      simp only [Option.bind_some]
      refine Ev.bind hs ?_
      simp only [if_true]
      have := sLoop l hm l.length 0 [] (by omega) (by omega) (by simp)
      rw [List.drop_zero, e] at this
      exact this
    · unfold impl_ColorsUsed.f
      refine Ev.bind hi ?_
      simp only [if_true, if_pos hm]
      exact Ev.now _
end Go.Proofs.Ytacimfnaacdobaa.M
