/- The program's AfterGrade returns what the reference's returns, for every appraisal and cost: no condition. -/
import Derived.Deep.Slices
import Derived.ChangeArms
import Derived.DataReads
import Derived.Carry
import Derived.KernelRfl
import Derived.Test.YtembbdhhpblapaaRows
import Derived.WalkKit
import Derived.ProofKit
import Derived.OpenShut
import Derived.ShutString
import Derived.ChangeOld
import Derived.Below
import Derived.SizedLaws
import Derived.ChangeVars
import Derived.Test.YtembbdhhpblapaaZFnExactAfterGrade5
namespace Go.Proofs.YtembbdhhpblapaaW.Open
open Go.ChangeShapes Go.WideShapes Go.Deep Go.Proofs.YtembbdhhpblapaaW.PrintWords

/-- Whatever reads as data of type t lies in memory as a value of kind d that is good. -/
structure Opn {α : Type} (P : Program) (d : Kd α) (t : TypeId) (good : α → Prop) : Prop where
  out : ∀ {H : Type} {enc : TypeId × Value → H} {w : World} {base : Nat} {spare : Nat → Bool} {held : Bool} {fuel : Nat} {cs : List Value} {x : DataW H × List MemPlace},
    DataW.trod enc P w base spare held fuel t cs = some x → ∃ a, d.K w a cs ∧ good a

/-- One for each place: a list of them. -/
theorem list_of {α : Type} {Q : Nat → α → Prop} : ∀ {len : Nat}, (∀ i, i < len → ∃ p : α, Q i p) → ∃ l : List α, l.length = len ∧ ∀ i p, l[i]? = some p → Q i p
  | 0, _ => ⟨[], rfl, by simp⟩
  | n + 1, h => by
    obtain ⟨l, hl1, hl2⟩ := list_of (len := n) (fun i hi => h i (by omega))
    obtain ⟨p, hp⟩ := h n (by omega)
    refine ⟨l ++ [p], by simp [hl1], fun i q hq => ?_⟩
    by_cases hil : i < n
    · rw [List.getElem?_append_left (by omega)] at hq
      exact hl2 i q hq
    · have hin : i = n := by
        have := (List.getElem?_eq_some_iff.1 hq).1
        simp [hl1] at this
        omega
      subst hin
      rw [List.getElem?_append_right (by omega)] at hq
      simp [hl1] at hq
      subst hq
      exact hp

section
variable {P : Program}
theorem Opn.int {t : TypeId} {k : IntKind} (ht : P.underlying t = some (.int k)) : Opn P (Kd.int k) t (fun n => (Lit.int k n).wf = true) := by
  constructor; intro H enc w base spare held fuel cs x h
  cases fuel with
  | zero => simp [DataW.trod] at h
  | succ m =>
    unfold DataW.trod at h
    rw [ht] at h
    split at h <;> simp_all
    exact ⟨_, rfl, by simp_all⟩
theorem Opn.bool {t : TypeId} (ht : P.underlying t = some .bool) : Opn P Kd.bool t (fun _ => True) := by
  constructor; intro H enc w base spare held fuel cs x h
  cases fuel with
  | zero => simp [DataW.trod] at h
  | succ m =>
    unfold DataW.trod at h
    rw [ht] at h
    split at h
    all_goals first | exact ⟨_, rfl, trivial⟩ | simp_all
theorem Opn.slice {α : Type} {d : Kd α} {t e : TypeId} {g : α → Prop} (ht : P.underlying t = some (.slice e)) {n0 : Nat} (hc0 : P.cellsOf e = n0) (hs0 : d.sz = n0) (he : Opn P d e g) :
    Opn P (Kd.slice e d) t (fun l => l.length ≤ maxLen ∧ ∀ x ∈ l, g x) := by
  have hc : P.cellsOf e = d.sz := hc0.trans hs0.symm
  constructor; intro H enc w base spare held fuel cs x h
  rcases open_slice ht h with ⟨rfl, _⟩ | ⟨a, len, cap, m, n, D, Pl, rfl, _, hl, hm, hmm, _, hi⟩
  · exact ⟨[], ⟨none, 0, rfl, Nat.le_refl _, rfl, by simp, fun h => absurd h (by simp)⟩, by simp, by simp⟩
  · have hlm : len ≤ m := by rw [hmm]; split <;> omega
    have hone : ∀ i, i < len → ∃ p : α, g p ∧ ∃ c, c.length = d.sz ∧ d.K w p c ∧ ∀ j u, c[j]? = some u → w.cell? (a.add (i * d.sz + j)) = some u := by
      intro i hil
      obtain ⟨cs', hcs, htr⟩ := hi i (by omega)
      obtain ⟨p, hp, hg⟩ := he.out htr
      obtain ⟨_, hlen, hat⟩ := World.cells?_some hcs
      refine ⟨p, hg, cs', hlen.trans hc, hp, fun j u hj => ?_⟩
      have hjl : j < P.cellsOf e := by have := (List.getElem?_eq_some_iff.1 hj).1; omega
      have := hat j hjl
      rw [hc] at this
      rw [← Go.Deep.add_add, this, hj]
    have hall := list_of hone
    obtain ⟨l, rfl, hl2⟩ := hall
    refine ⟨l, ⟨some a, cap, rfl, hl, rfl, by unfold maxLen at hm; omega, fun _ => ⟨a, rfl, fun j p hj => (hl2 j p hj).2⟩⟩, by omega, fun x hx => ?_⟩
    obtain ⟨i, hi, rfl⟩ := List.getElem_of_mem hx
    exact (hl2 i _ (List.getElem?_eq_getElem hi)).1
theorem Opn.iso {α β : Type} {d : Kd α} {t : TypeId} {g : α → Prop} (f : β → α) (b : α → β) (hfb : ∀ a, f (b a) = a) (h : Opn P d t g) : Opn P (Kd.iso d f) t (fun x => g (f x)) := by
  constructor; intro H enc w base spare held fuel cs x hx
  obtain ⟨a, hk, hg⟩ := h.out hx
  exact ⟨b a, by show d.K w (f (b a)) cs; rw [hfb]; exact hk, by show g (f (b a)); rw [hfb]; exact hg⟩

def andG {α β : Type} (g : α → Prop) (gs : β → Prop) : α × β → Prop := fun x => g x.1 ∧ gs x.2
/-- The fields of a struct, from one on. -/
structure OpnF {α : Type} (P : Program) (d : Kd α) (off : Nat) (fs : List Field) (good : α → Prop) : Prop where
  out : ∀ {H : Type} {enc : TypeId × Value → H} {w : World} {base : Nat} {spare : Nat → Bool} {held : Bool} {fuel : Nat} {cs : List Value},
    cs.length = off + d.sz → (∀ f ∈ fs, ∃ y, DataW.trod enc P w base spare held fuel f.type ((cs.drop f.offset).take (P.cellsOf f.type)) = some y) → ∃ a, d.K w a (cs.drop off) ∧ good a
theorem OpnF.one {α : Type} {d : Kd α} {f : Field} {g : α → Prop} {off : Nat} (ho : f.offset = off) {n0 : Nat} (hc0 : P.cellsOf f.type = n0) (hs0 : d.sz = n0) (h : Opn P d f.type g) : OpnF P d off [f] g := by
  have hc : P.cellsOf f.type = d.sz := hc0.trans hs0.symm
  constructor; intro H enc w base spare held fuel cs hl hf
  obtain ⟨y, hy⟩ := hf f (by simp)
  rw [ho, hc, List.take_of_length_le (by simp; omega)] at hy
  exact h.out hy
theorem OpnF.cons {α β : Type} {d : Kd α} {ds : Kd β} {f : Field} {fs : List Field} {g : α → Prop} {gs : β → Prop} {off : Nat} (ho : f.offset = off) {n0 : Nat} (hc0 : P.cellsOf f.type = n0) (hs0 : d.sz = n0) (h : Opn P d f.type g) (hs : OpnF P ds (off + d.sz) fs gs) :
    OpnF P (Kd.pair d ds) off (f :: fs) (andG g gs) := by
  have hc : P.cellsOf f.type = d.sz := hc0.trans hs0.symm
  constructor; intro H enc w base spare held fuel cs hl hf
  obtain ⟨y, hy⟩ := hf f (by simp)
  rw [ho, hc] at hy
  obtain ⟨a, ha, hga⟩ := h.out hy
  obtain ⟨b, hb, hgb⟩ := hs.out (cs := cs) (by rw [hl]; show off + (d.sz + ds.sz) = _; omega) (fun f' hf' => hf f' (List.mem_cons_of_mem _ hf'))
  refine ⟨(a, b), ⟨_, _, ?_, ha, hb⟩, hga, hgb⟩
  rw [← List.drop_drop, List.take_append_drop]
theorem Opn.struct {α : Type} {d : Kd α} {t : TypeId} {L : List Field} {g : α → Prop} (ht : P.underlying t = some (.struct L.toArray)) {n0 : Nat} (hc0 : P.cellsOf t = n0) (hs0 : d.sz = n0) (h : OpnF P d 0 L g) : Opn P d t g := by
  have hc : P.cellsOf t = d.sz := hc0.trans hs0.symm
  constructor; intro H enc w base spare held fuel cs x hx
  obtain ⟨xs, n, _, _, hlen, hxs, hf⟩ := DataW.trod_struct ht hx
  obtain ⟨a, ha, hg⟩ := h.out (enc := enc) (w := w) (base := base) (spare := spare) (held := held) (fuel := n) (cs := cs) (by rw [hlen, hc]; omega) (fun f hm => by
    obtain ⟨i, hi, rfl⟩ := List.getElem_of_mem hm
    have h1 := hf i L[i] (by simp [hi])
    have hi2 : i < xs.length := by simp at hxs; omega
    exact ⟨xs[i], h1.trans (List.getElem?_eq_getElem hi2)⟩)
  exact ⟨a, by simpa using ha, hg⟩
end
end Go.Proofs.YtembbdhhpblapaaW.Open

namespace Go.Proofs.Ytembbdhhpblapaa.Q
open Go.RowKit Go.Proofs.YtembbdhhpblapaaW.PrintWords Go.Proofs.YtembbdhhpblapaaW.PrintLast Go.Proofs.YtembbdhhpblapaaW.PrintMore
set_option linter.unusedVariables false
set_option linter.unusedSimpArgs false

open Go.Proofs.YtembbdhhpblapaaW.Open
def g23 (x : S23) : Prop := (Lit.int .i64 x.f0).wf = true ∧ (Lit.int .i64 x.f1).wf = true ∧ (Lit.int .i64 x.f2).wf = true ∧ (Lit.int .i64 x.f3).wf = true ∧ True
theorem opn23 : Opn Try.prog k23 23 g23 := by
  show Opn Try.prog (Kd.iso (Kd.pair (Kd.int .i64) (Kd.pair (Kd.int .i64) (Kd.pair (Kd.int .i64) (Kd.pair (Kd.int .i64) Kd.bool)))) (fun x : S23 => (x.f0, x.f1, x.f2, x.f3, x.f4))) 23 (fun x : S23 => (andG (fun x => (Lit.int .i64 x).wf = true) (andG (fun x => (Lit.int .i64 x).wf = true) (andG (fun x => (Lit.int .i64 x).wf = true) (andG (fun x => (Lit.int .i64 x).wf = true) (fun x => True))))) ((fun x : S23 => (x.f0, x.f1, x.f2, x.f3, x.f4)) x))
  refine Opn.iso (g := (andG (fun x => (Lit.int .i64 x).wf = true) (andG (fun x => (Lit.int .i64 x).wf = true) (andG (fun x => (Lit.int .i64 x).wf = true) (andG (fun x => (Lit.int .i64 x).wf = true) (fun x => True)))))) (fun x : S23 => (x.f0, x.f1, x.f2, x.f3, x.f4)) (fun a : Int × Int × Int × Int × Bool => (⟨a.1, a.2.1, a.2.2.1, a.2.2.2.1, a.2.2.2.2⟩ : S23)) (fun _ => rfl) ?_
  refine Opn.struct Try.underlying23 (n0 := 5) (by kernel_rfl) rfl ?_
  refine OpnF.cons (n0 := 1) rfl ?_ rfl ?_ ?_
  · kernel_rfl
  · exact (Opn.int Try.underlying3)
  refine OpnF.cons (n0 := 1) rfl ?_ rfl ?_ ?_
  · kernel_rfl
  · exact (Opn.int Try.underlying3)
  refine OpnF.cons (n0 := 1) rfl ?_ rfl ?_ ?_
  · kernel_rfl
  · exact (Opn.int Try.underlying3)
  refine OpnF.cons (n0 := 1) rfl ?_ rfl ?_ ?_
  · kernel_rfl
  · exact (Opn.int Try.underlying3)
  refine OpnF.one (n0 := 1) rfl ?_ rfl ?_
  · kernel_rfl
  · exact (Opn.bool Try.underlying4)
def g36 (x : S36) : Prop := (Lit.int .i64 x.f0).wf = true ∧ g23 x.f1 ∧ (Lit.int .i64 x.f2).wf = true
end Go.Proofs.Ytembbdhhpblapaa.Q

namespace Go.Proofs.Ytembbdhhpblapaa.Q
open Go.RowKit Go.Proofs.YtembbdhhpblapaaW.PrintWords Go.Proofs.YtembbdhhpblapaaW.PrintLast Go.Proofs.YtembbdhhpblapaaW.PrintMore
set_option linter.unusedVariables false
set_option linter.unusedSimpArgs false

/-- THE ONE PURE STATEMENT of laws_FnExactAfterGrade. -/
def laws_FnExactAfterGrade.Pure : Prop := ∀ (a0_0 : Int) (a0_1 : Int) (a0_2 : Int) (a0_3 : Int) (a0_4 : Bool) (a1 : Int), g23 (⟨a0_0, a0_1, a0_2, a0_3, a0_4⟩ : S23) → (Lit.int .i64 a1).wf = true → ∃ k, laws_FnExactAfterGrade.f k a0_0 a0_1 a0_2 a0_3 a0_4 a1 = some true
theorem laws_FnExactAfterGrade.walk (P : laws_FnExactAfterGrade.Pure) (a0_0 : Int) (a0_1 : Int) (a0_2 : Int) (a0_3 : Int) (a0_4 : Bool) (a1 : Int)  (w : World)  (q0 : g23 (⟨a0_0, a0_1, a0_2, a0_3, a0_4⟩ : S23)) (q1 : (Lit.int .i64 a1).wf = true) :
    Calls Try.prog 7 #[.agg #[.int .i64 a0_0, .int .i64 a0_1, .int .i64 a0_2, .int .i64 a0_3, .bool a0_4], .int .i64 a1] w fun e w' => e = .returned (.bool true) ∧ Below w.heap.size w w' := by
  obtain ⟨k, h⟩ := P a0_0 a0_1 a0_2 a0_3 a0_4 a1 q0 q1
  refine (laws_FnExactAfterGrade.calls (k := k) (r := true) (w := w) (h := h)).mono ?_
  rintro e w' ⟨rfl, hd⟩
  exact ⟨rfl, hd⟩
end Go.Proofs.Ytembbdhhpblapaa.Q

namespace Go.Proofs.Ytembbdhhpblapaa.Q
open Go.RowKit Go.Proofs.YtembbdhhpblapaaW.PrintWords Go.Proofs.YtembbdhhpblapaaW.PrintLast Go.Proofs.YtembbdhhpblapaaW.PrintMore
set_option linter.unusedVariables false
set_option linter.unusedSimpArgs false

/-- THE ONE PURE STATEMENT of laws_FnExactRatioOf. -/
def laws_FnExactRatioOf.Pure : Prop := ∀ (a0_0 : Int) (a0_1 : Int) (a0_2 : Int) (a0_3 : Int) (a0_4 : Int) (a0_5 : Bool) (a0_6 : Int), g36 (⟨a0_0, (⟨a0_1, a0_2, a0_3, a0_4, a0_5⟩ : S23), a0_6⟩ : S36) → ∃ k, laws_FnExactRatioOf.f k a0_0 a0_1 a0_2 a0_3 a0_4 a0_5 a0_6 = some true
theorem laws_FnExactRatioOf.walk (P : laws_FnExactRatioOf.Pure) (a0_0 : Int) (a0_1 : Int) (a0_2 : Int) (a0_3 : Int) (a0_4 : Int) (a0_5 : Bool) (a0_6 : Int)  (w : World)  (q0 : g36 (⟨a0_0, (⟨a0_1, a0_2, a0_3, a0_4, a0_5⟩ : S23), a0_6⟩ : S36)) :
    Calls Try.prog 8 #[.agg #[.int .i64 a0_0, .int .i64 a0_1, .int .i64 a0_2, .int .i64 a0_3, .int .i64 a0_4, .bool a0_5, .int .i64 a0_6]] w fun e w' => e = .returned (.bool true) ∧ Below w.heap.size w w' := by
  obtain ⟨k, h⟩ := P a0_0 a0_1 a0_2 a0_3 a0_4 a0_5 a0_6 q0
  refine (laws_FnExactRatioOf.calls (k := k) (r := true) (w := w) (h := h)).mono ?_
  rintro e w' ⟨rfl, hd⟩
  exact ⟨rfl, hd⟩
end Go.Proofs.Ytembbdhhpblapaa.Q

namespace Go.Proofs.Ytembbdhhpblapaa.Q
open Go.RowKit Go.Proofs.YtembbdhhpblapaaW.PrintWords Go.Proofs.YtembbdhhpblapaaW.PrintLast Go.Proofs.YtembbdhhpblapaaW.PrintMore
set_option linter.unusedVariables false
set_option linter.unusedSimpArgs false

/-- THE ONE PURE STATEMENT of laws_FnExactBaseOf. -/
def laws_FnExactBaseOf.Pure : Prop := ∀ (a0_0 : Int) (a0_1 : Int) (a0_2 : Int) (a0_3 : Int) (a0_4 : Bool), g23 (⟨a0_0, a0_1, a0_2, a0_3, a0_4⟩ : S23) → laws_FnExactBaseOf.f a0_0 a0_1 a0_2 a0_3 a0_4 = some true
theorem laws_FnExactBaseOf.walk (P : laws_FnExactBaseOf.Pure) (a0_0 : Int) (a0_1 : Int) (a0_2 : Int) (a0_3 : Int) (a0_4 : Bool)  (w : World)  (q0 : g23 (⟨a0_0, a0_1, a0_2, a0_3, a0_4⟩ : S23)) :
    Calls Try.prog 5 #[.agg #[.int .i64 a0_0, .int .i64 a0_1, .int .i64 a0_2, .int .i64 a0_3, .bool a0_4]] w fun e w' => e = .returned (.bool true) ∧ Below w.heap.size w w' := by
  have h := P a0_0 a0_1 a0_2 a0_3 a0_4 q0
  refine (laws_FnExactBaseOf.calls (r := true) (w := w) (h := h)).mono ?_
  rintro e w' ⟨rfl, hd⟩
  exact ⟨rfl, hd⟩
end Go.Proofs.Ytembbdhhpblapaa.Q

namespace Go.Proofs.Ytembbdhhpblapaa.M
open Go.RowKit Go.Proofs.Ytembbdhhpblapaa.Q Go.Proofs.YtembbdhhpblapaaW.PrintWords Go.Proofs.YtembbdhhpblapaaW.PrintLast

theorem w64 {x : Int} (h : -9223372036854775808 ≤ x ∧ x ≤ 9223372036854775807) : wrap64 x = x := by unfold wrap64; omega
theorem mul_b {a b A B : Int} (h0 : 0 ≤ a) (h1 : a ≤ A) (k0 : 0 ≤ b) (k1 : b ≤ B) : 0 ≤ a * b ∧ a * b ≤ A * B :=
  ⟨Int.mul_nonneg h0 k0, Int.mul_le_mul h1 k1 k0 (by omega)⟩

/-- A valid appraisal. -/
def okA (a b c d : Int) : Bool := decide (1 ≤ a ∧ a ≤ 4000) && (decide (100 ≤ b ∧ b ≤ 10000) && (decide (0 ≤ c ∧ c ≤ 400) && decide (1 ≤ d ∧ d ≤ 4)))
theorem l1In (a b c : Int) : spec_l1In.f a b c = some (decide (b ≤ a ∧ a ≤ c)) := by
  unfold spec_l1In.f
  by_cases h : b ≤ a <;> by_cases h2 : a ≤ c <;> simp [h, h2]
theorem iIn (a b c : Int) : impl_in.f a b c = some (decide (b ≤ a ∧ a ≤ c)) := by
  unfold impl_in.f
  by_cases h : b ≤ a <;> by_cases h2 : a ≤ c <;> simp [h, h2]
theorem l24One (a b c d : Int) (e : Bool) : spec_l24One.f a b c d e = some (okA a b c d) := by
  unfold spec_l24One.f okA
  simp only [l1In, Option.bind_some]
  repeat' split
  all_goals (simp_all <;> omega)
theorem iIsA (a b c d : Int) (e : Bool) : impl_IsAppraisal.f a b c d e = some (okA a b c d) := by
  unfold impl_IsAppraisal.f okA
  simp only [iIn, Option.bind_some]
  repeat' split
  all_goals (simp_all <;> omega)
theorem okA_iff {a b c d : Int} : okA a b c d = true ↔ (1 ≤ a ∧ a ≤ 4000) ∧ (100 ≤ b ∧ b ≤ 10000) ∧ (0 ≤ c ∧ c ≤ 400) ∧ (1 ≤ d ∧ d ≤ 4) := by
  unfold okA; simp
def bA (a b : Int) (e : Bool) : Int := if e = true then 6 * (a * b) else 2 * (a * b)
theorem bA_bd {a b c d : Int} (e : Bool) (h : okA a b c d = true) : 200 ≤ bA a b e ∧ bA a b e ≤ 240000000 := by
  obtain ⟨h1, h2, _, _⟩ := okA_iff.1 h
  have h3 : 1 * 100 ≤ a * b := Int.mul_le_mul h1.1 h2.1 (by omega) (by omega)
  have h4 : a * b ≤ 4000 * 10000 := Int.mul_le_mul h1.2 h2.2 (by omega) (by omega)
  unfold bA; split <;> omega
theorem sBase {a b c d : Int} (e : Bool) (h : okA a b c d = true) : spec_l24Base.f a b c d e = some (bA a b e) := by
  obtain ⟨h1, h2, _, _⟩ := okA_iff.1 h
  have h3 : 1 * 100 ≤ a * b := Int.mul_le_mul h1.1 h2.1 (by omega) (by omega)
  have h4 : a * b ≤ 4000 * 10000 := Int.mul_le_mul h1.2 h2.2 (by omega) (by omega)
  unfold spec_l24Base.f bA
  rw [w64 (x := a * b) (by omega), w64 (x := a * b * 2) (by omega), w64 (x := 3 * (a * b * 2)) (by omega)]
  split <;> (congr 1; omega)
theorem iBase {a b c d : Int} (e : Bool) (h : okA a b c d = true) : impl_Appraisal_base.f a b c d e = some (bA a b e) := by
  obtain ⟨h1, h2, _, _⟩ := okA_iff.1 h
  have h3 : 1 * 100 ≤ a * b := Int.mul_le_mul h1.1 h2.1 (by omega) (by omega)
  have h4 : a * b ≤ 4000 * 10000 := Int.mul_le_mul h1.2 h2.2 (by omega) (by omega)
  unfold impl_Appraisal_base.f bA
  rw [w64 (x := 6 * a) (by omega), w64 (x := 2 * a) (by omega), Int.mul_assoc, Int.mul_assoc, w64 (x := 6 * (a * b)) (by omega), w64 (x := 2 * (a * b)) (by omega)]
  split <;> rfl

theorem toA (a b c d : Int) (e : Bool) : laws_toAppraisal.f a b c d e = some (a, b, c, d, e) := rfl
end Go.Proofs.Ytembbdhhpblapaa.M

namespace Go.Proofs.Ytembbdhhpblapaa.Q
open Go.RowKit Go.Proofs.YtembbdhhpblapaaW.PrintWords Go.Proofs.YtembbdhhpblapaaW.PrintLast Go.Proofs.YtembbdhhpblapaaW.PrintMore
set_option linter.unusedVariables false
set_option linter.unusedSimpArgs false

/-- THE ONE PURE STATEMENT of laws_FnExactValueOf. -/
def laws_FnExactValueOf.Pure : Prop := ∀ (a0_0 : Int) (a0_1 : Int) (a0_2 : Int) (a0_3 : Int) (a0_4 : Bool), g23 (⟨a0_0, a0_1, a0_2, a0_3, a0_4⟩ : S23) → laws_FnExactValueOf.f a0_0 a0_1 a0_2 a0_3 a0_4 = some true
theorem laws_FnExactValueOf.walk (P : laws_FnExactValueOf.Pure) (a0_0 : Int) (a0_1 : Int) (a0_2 : Int) (a0_3 : Int) (a0_4 : Bool)  (w : World)  (q0 : g23 (⟨a0_0, a0_1, a0_2, a0_3, a0_4⟩ : S23)) :
    Calls Try.prog 6 #[.agg #[.int .i64 a0_0, .int .i64 a0_1, .int .i64 a0_2, .int .i64 a0_3, .bool a0_4]] w fun e w' => e = .returned (.bool true) ∧ Below w.heap.size w w' := by
  have h := P a0_0 a0_1 a0_2 a0_3 a0_4 q0
  refine (laws_FnExactValueOf.calls (r := true) (w := w) (h := h)).mono ?_
  rintro e w' ⟨rfl, hd⟩
  exact ⟨rfl, hd⟩
end Go.Proofs.Ytembbdhhpblapaa.Q

namespace Go.Proofs.Ytembbdhhpblapaa.M
open Go.RowKit Go.Proofs.Ytembbdhhpblapaa.Q Go.Proofs.YtembbdhhpblapaaW.PrintWords Go.Proofs.YtembbdhhpblapaaW.PrintLast

def fac (g : Int) : Int := if g = 1 then 100 else if g = 2 then 80 else if g = 3 then 55 else 30
def bon (c : Int) : Int := if c ≥ 100 then 160 else if c ≥ 50 then 120 else 100
/-- The value of an appraisal with grade g. -/
def vA (a b c : Int) (e : Bool) (g : Int) : Int := bA a b e * bon c * fac g / 10000
theorem fac_bd (g : Int) : 30 ≤ fac g ∧ fac g ≤ 100 := by unfold fac; omega
theorem bon_bd (c : Int) : 100 ≤ bon c ∧ bon c ≤ 160 := by unfold bon; omega
theorem vA_bd {a b c d : Int} (e : Bool) (h : okA a b c d = true) (g : Int) : 0 ≤ vA a b c e g ∧ vA a b c e g ≤ 384000000 ∧ 0 ≤ bA a b e * bon c ∧ bA a b e * bon c ≤ 38400000000 ∧ 0 ≤ bA a b e * bon c * fac g ∧ bA a b e * bon c * fac g ≤ 3840000000000 := by
  have h1 := bA_bd e h
  have h2 := bon_bd c
  have h3 := fac_bd g
  have h4 := mul_b (a := bA a b e) (b := bon c) (A := 240000000) (B := 160) (by omega) (by omega) (by omega) (by omega)
  have h5 := mul_b (a := bA a b e * bon c) (b := fac g) (A := 38400000000) (B := 100) (by omega) (by omega) (by omega) (by omega)
  unfold vA
  omega
theorem td {x : Int} (h0 : 0 ≤ x) (h1 : x ≤ 9223372036854775807) : wrap64 (Int.tdiv x 10000) = x / 10000 := by
  rw [Int.tdiv_eq_ediv_of_nonneg h0, w64 (by omega)]
theorem fin {x : Int} (h : 0 ≤ x ∧ x ≤ 3840000000000) : some (wrap64 (Int.tdiv (wrap64 x) 10000)) = some (x / 10000) := by
  rw [w64 (x := x) (by omega), td (by omega) (by omega)]
theorem rd4 {g : Int} (h : 1 ≤ g ∧ g ≤ 4) : 0 ≤ wrap64 (g - 1) ∧ wrap64 (g - 1) < (([100, 80, 55, 30] : List Int).length : Int) ∧ rd ([100, 80, 55, 30] : List Int) (wrap64 (g - 1)) = fac g := by
  have : g = 1 ∨ g = 2 ∨ g = 3 ∨ g = 4 := by omega
  rcases this with rfl | rfl | rfl | rfl <;> decide +kernel
theorem sVal {a b c d : Int} (e : Bool) (h : okA a b c d = true) {g : Int} (hg : 1 ≤ g ∧ g ≤ 4) : spec_l24Value.f a b c d e g = some (vA a b c e g) := by
  obtain ⟨r1, r2, r3⟩ := rd4 hg
  have hv := vA_bd e h g
  unfold spec_l24Value.f
  rw [sBase e h]
  simp only [Option.bind_some]
  simp only [if_pos r1, if_pos r2, r3]
  unfold vA at *
  by_cases h1 : c ≥ 100
  · have hb : bon c = 160 := by unfold bon; rw [if_pos h1]
    rw [hb] at hv ⊢
    rw [if_pos h1, show (100 + 60 : Int) = 160 from rfl, w64 (x := bA a b e * 160) (by omega), w64 (x := bA a b e * 160 * fac g) (by omega), td (by omega) (by omega)]
  · rw [if_neg h1]
    by_cases h2 : c ≥ 50
    · have hb : bon c = 120 := by unfold bon; rw [if_neg h1, if_pos h2]
      rw [hb] at hv ⊢
      rw [if_pos h2, show (100 + 20 : Int) = 120 from rfl, w64 (x := bA a b e * 120) (by omega), w64 (x := bA a b e * 120 * fac g) (by omega), td (by omega) (by omega)]
    · have hb : bon c = 100 := by unfold bon; rw [if_neg h1, if_neg h2]
      rw [hb] at hv ⊢
      rw [if_neg h2, show (100 + 0 : Int) = 100 from rfl, w64 (x := bA a b e * 100) (by omega), w64 (x := bA a b e * 100 * fac g) (by omega), td (by omega) (by omega)]
theorem iVal {a b c d : Int} (e : Bool) (h : okA a b c d = true) : impl_Appraisal_value.f a b c d e = some (vA a b c e d) := by
  have hd : 1 ≤ d ∧ d ≤ 4 := (okA_iff.1 h).2.2.2
  have hv := vA_bd e h d
  unfold impl_Appraisal_value.f
  rw [iBase e h]
  simp only [Option.bind_some]
  rw [w64 (x := d - 1) (by omega)]
  unfold vA at *
  have hdd : d = 1 ∨ d = 2 ∨ d = 3 ∨ d = 4 := by omega
  by_cases h1 : c ≥ 100
  · have hb : bon c = 160 := by unfold bon; rw [if_pos h1]
    rw [hb] at hv ⊢
    rw [if_pos h1, show (100 + 60 : Int) = 160 from rfl, w64 (x := bA a b e * 160) (by omega)]
    rcases hdd with rfl | rfl | rfl | rfl <;> simp only [fac] at hv ⊢ <;> simp only [Int.reduceSub, Int.reduceEq, if_true, if_false] at hv ⊢ <;> exact fin (by omega)
  · rw [if_neg h1]
    by_cases h2 : c ≥ 50
    · have hb : bon c = 120 := by unfold bon; rw [if_neg h1, if_pos h2]
      rw [hb] at hv ⊢
      rw [if_pos h2, show (100 + 20 : Int) = 120 from rfl, w64 (x := bA a b e * 120) (by omega)]
      rcases hdd with rfl | rfl | rfl | rfl <;> simp only [fac] at hv ⊢ <;> simp only [Int.reduceSub, Int.reduceEq, if_true, if_false] at hv ⊢ <;> exact fin (by omega)
    · have hb : bon c = 100 := by unfold bon; rw [if_neg h1, if_neg h2]
      rw [hb] at hv ⊢
      rw [if_neg h2, show (100 + 0 : Int) = 100 from rfl, w64 (x := bA a b e * 100) (by omega)]
      rcases hdd with rfl | rfl | rfl | rfl <;> simp only [fac] at hv ⊢ <;> simp only [Int.reduceSub, Int.reduceEq, if_true, if_false] at hv ⊢ <;> exact fin (by omega)
theorem okA_g {a b c d : Int} (h : okA a b c d = true) {g : Int} (hg : 1 ≤ g ∧ g ≤ 4) : okA a b c g = true := by
  obtain ⟨h1, h2, h3, _⟩ := okA_iff.1 h
  exact okA_iff.2 ⟨h1, h2, h3, hg⟩
/-- What is gained with grade g: its value, less the cost for each grade. -/
def gain (a b c d : Int) (e : Bool) (cost g : Int) : Int := vA a b c e g - cost * (d - g)
/-- The best grade from the ones at m and below, and one that is best so far. -/
def bestG (a b c d : Int) (e : Bool) (cost : Int) : Nat → Int → Int
  | 0, best => best
  | n + 1, best => bestG a b c d e cost n (if gain a b c d e cost (n + 1) > gain a b c d e cost best then (n + 1 : Int) else best)
theorem grade_run {a b c d : Int} (e : Bool) (h : okA a b c d = true) {cost : Int} (hc : 0 ≤ cost ∧ cost ≤ 100000000) (n : Nat) : ∀ best : Int, 1 ≤ best ∧ best ≤ d → (n : Int) < d → ∀ j,
    spec_AfterGrade.l0 (n + 1 + j) cost best n a b c d e = some (bestG a b c d e cost n best, true) ∧ impl_AfterGrade.l0 (n + 1 + j) cost best (gain a b c d e cost best) n a b c d e = some (bestG a b c d e cost n best, true) := by
  induction n with
  | zero =>
    intro best hb hd j
    rw [show 0 + 1 + j = j + 1 by omega]
    constructor
    · simp [spec_AfterGrade.l0, bestG]
    · simp [impl_AfterGrade.l0, bestG]
  | succ n ih =>
    intro best hb hd j
    have hd4 := (okA_iff.1 h).2.2.2
    rw [show n + 1 + 1 + j = (n + 1 + j) + 1 by omega]
    have hgain : ∀ g : Int, 1 ≤ g ∧ g ≤ d → wrap64 (cost * wrap64 (d - g)) = cost * (d - g) ∧ wrap64 (vA a b c e g - cost * (d - g)) = gain a b c d e cost g := by
      intro g hg
      have hv := vA_bd e h g
      have hm := mul_b (a := cost) (b := d - g) (A := 100000000) (B := 3) hc.1 hc.2 (by omega) (by omega)
      rw [w64 (x := d - g) (by omega), w64 (x := cost * (d - g)) (by omega), w64 (x := vA a b c e g - cost * (d - g)) (by omega)]
      exact ⟨rfl, rfl⟩
    have hn : ((n + 1 : Nat) : Int) = (n : Int) + 1 := by omega
    have g1 := hgain (n + 1) (by omega)
    have g2 := hgain best hb
    have hw : wrap64 ((n : Int) + 1 - 1) = n := by rw [show (n : Int) + 1 - 1 = n by omega]; exact w64 (by omega)
    rw [hn]
    simp only [spec_AfterGrade.l0, impl_AfterGrade.l0, bestG]
    rw [if_pos (show (n : Int) + 1 ≥ 1 by omega), if_pos (show (n : Int) + 1 ≥ 1 by omega), sVal e h (g := (n : Int) + 1) (by omega), sVal e h (g := best) (by omega), iVal e (okA_g h (g := (n : Int) + 1) (by omega))]
    simp only [Option.bind_some]
    rw [g1.1, g1.2, g2.1, g2.2, hw]
    by_cases hgt : gain a b c d e cost (n + 1) > gain a b c d e cost best
    · rw [if_pos hgt, if_pos hgt, if_pos hgt]
      exact ih (n + 1) (by omega) (by omega) j
    · rw [if_neg hgt, if_neg hgt, if_neg hgt]
      exact ih best hb (by omega) j
theorem after_run (a b c d : Int) (e : Bool) (cost : Int) : ∀ j,
    spec_AfterGrade.f (d.toNat + 2 + j) a b c d e cost = some (if okA a b c d = true ∧ (0 ≤ cost ∧ cost ≤ 100000000) then (bestG a b c d e cost (d - 1).toNat d, true) else (0, false)) ∧
    impl_AfterGrade.f (d.toNat + 2 + j) a b c d e cost = some (if okA a b c d = true ∧ (0 ≤ cost ∧ cost ≤ 100000000) then (bestG a b c d e cost (d - 1).toNat d, true) else (0, false)) := by
  intro j
  unfold spec_AfterGrade.f impl_AfterGrade.f spec_l24Cents.f
  simp only [l24One, iIsA, l1In, iIn, Option.bind_some]
  rw [show d.toNat + 2 + j = (d.toNat + 1 + j) + 1 by omega]
  by_cases h : okA a b c d = true
  · by_cases hc : 0 ≤ cost ∧ cost ≤ 100000000
    · have hd4 := (okA_iff.1 h).2.2.2
      rw [if_pos h, if_pos h, if_pos ⟨h, hc⟩]
      simp only [spec_AfterGrade.j0, impl_AfterGrade.j0, hc, and_self, decide_true, Bool.not_true, Bool.false_eq_true, if_false]
      rw [iVal e h]
      simp only [Option.bind_some]
      have hr := grade_run e h hc (d - 1).toNat d (by omega) (by omega) (j + 1)
      have e1 : wrap64 (d - 1) = ((d - 1).toNat : Int) := by rw [w64 (by omega)]; omega
      have e2 : gain a b c d e cost d = vA a b c e d := by unfold gain; rw [show d - d = 0 by omega, Int.mul_zero, Int.sub_zero]
      rw [e2] at hr
      rw [e1, show d.toNat + 1 + j = (d - 1).toNat + 1 + (j + 1) by omega]
      exact hr
    · rw [if_pos h, if_pos h, if_neg (by rintro ⟨_, h2⟩; exact hc h2)]
      simp only [spec_AfterGrade.j0, impl_AfterGrade.j0, hc, decide_false, Bool.not_false, if_true, and_self]
  · rw [if_neg h, if_neg h, if_neg (by rintro ⟨h2, _⟩; exact h h2)]
    simp only [spec_AfterGrade.j0, impl_AfterGrade.j0, if_true, and_self]
end Go.Proofs.Ytembbdhhpblapaa.M

namespace Go.Proofs.Ytembbdhhpblapaa.Pure
open Go.RowKit Go.Proofs.Ytembbdhhpblapaa.Q Go.Proofs.Ytembbdhhpblapaa.M

theorem FnExactAfterGrade : laws_FnExactAfterGrade.Pure := by
  intro a b c d e cost _ _
  refine ⟨d.toNat + 2 + 0, ?_⟩
  unfold laws_FnExactAfterGrade.f
  simp only [toA, Option.bind_some, (after_run a b c d e cost 0).1, (after_run a b c d e cost 0).2]
  simp
end Go.Proofs.Ytembbdhhpblapaa.Pure

namespace Go.Proofs.Ytembbdhhpblapaa.fnExactAfterGrade
open Go.ChangeShapes Go.WideShapes Go.ChangeAt Go.RowKit Go.Proofs.Ytembbdhhpblapaa.Q Go.Proofs.YtembbdhhpblapaaW.Open Go.Proofs.YtembbdhhpblapaaW.PrintWords
set_option linter.unusedVariables false
theorem own : ownKnob Try.prog.godebug = none := by kernel_rfl
theorem laidOut : laidOutB Try.prog = true := by kernel_rfl
set_option maxRecDepth 100000 in
theorem lifted (os : Os) (started : os.Started) (H : Type) (enc : TypeId × Value → H) :
    ReturnsInHanded {} Try.checked os 7 .any (Rows.fnExactAfterGradeSpec.pre6 enc Try.prog Try.f7 Rows.fnExactAfterGradeRow.domain false) (Rows.fnExactAfterGradeSpec.post enc Try.prog Try.f7 false true false false) := by
  refine returnsInHanded_of_change_sized (C := Try.checked) own started (by kernel_rfl) Try.func7
    (ChangeSpec.witness6 (enc := enc) (C := Try.checked) false ⟨#[], #[.agg #[.int .i64 0, .int .i64 0, .int .i64 0, .int .i64 0, .bool false], .int .i64 0], []⟩ 8 (by kernel_rfl) (by kernel_rfl) (by kernel_rfl) (by kernel_rfl)) ?_
  intro W base args ds gs before hval0 hW hcnd hsz0 _
  have hval : ∀ (j : Nat) t v, Try.f7.params[j]? = some t → args[j]? = some v → Value.okWide Try.prog W .any base t v := hval0
  have hW' := hW
  obtain ⟨p, q, hA0, hV, rfl, hfz, hnd⟩ := hW
  have hA : DataW.TrodAll enc Try.prog W 0 (fun _ => true) true Try.f7.params.toList args.toList ds p := hA0
  rw [Try.params7] at hA hval
  obtain ⟨v0, vs0, d0, ds0, p0, q0, hargs, rfl, rfl, h0, r0⟩ := trodAll_cons hA
  obtain ⟨v1, vs1, d1, ds1, p1, q1, rfl, rfl, rfl, h1, r1⟩ := trodAll_cons r0
  obtain ⟨rfl, rfl, rfl⟩ := trodAll_nil r1
  obtain rfl : args = #[v0, v1] := by cases args; simp_all
  obtain ⟨rfl, rfl⟩ := trodVars_none hV
  have k0 := h0
  have lt0 : ∀ x ∈ p0, x.block < W.heap.size := by obtain ⟨m, hm⟩ := k0; exact DataW.trod_lt m _ _ _ hm
  obtain ⟨cs0, rfl, _⟩ := okWide_struct Try.underlying23 (hval 0 23 v0 rfl rfl)
  obtain ⟨fu0, hf0⟩ := h0
  obtain ⟨x0, hk0, q0⟩ := (opn23).out hf0
  have ho0 := k23_open hk0
  obtain rfl : cs0 = #[.int .i64 x0.f0, .int .i64 x0.f1, .int .i64 x0.f2, .int .i64 x0.f3, .bool x0.f4] := by cases cs0; simpa [Value.cells] using ho0
  have k1 := h1
  have lt1 : ∀ x ∈ p1, x.block < W.heap.size := by obtain ⟨m, hm⟩ := k1; exact DataW.trod_lt m _ _ _ hm
  obtain ⟨a1, rfl, _, _, q1⟩ := open_int Try.underlying3 (hval 1 3 v1 rfl rfl) h1
  refine (laws_FnExactAfterGrade.walk Pure.FnExactAfterGrade x0.f0 x0.f1 x0.f2 x0.f3 x0.f4 a1  W  q0 q1).mono fun e W' ⟨he, bel⟩ => ?_
  subst he
  exact ⟨_, rfl, _, _, _, [], _, [], hW', trodAll_mk1 (shut_bool Try.underlying4 _), (trodAll_cons_mk (Below.trod laidOut (by kernel_rfl) (of_decide_eq_true (by kernel_rfl)) k0 bel lt0) (trodAll_cons_mk (Below.trod laidOut (by kernel_rfl) (of_decide_eq_true (by kernel_rfl)) k1 bel lt1) trodAll_mk0)), rfl, bel.frame _, fun h => by cases h⟩
theorem over : Rows.fnExactAfterGradeRow.holds Try.pinned (OpenSpec.ofChange Rows.fnExactAfterGradeSpec) :=
  OpenClaim.holds_of_wide 7 Try.f7 rfl rfl rfl rfl rfl rfl rfl ⟨rfl, rfl, rfl, rfl, rfl⟩ rfl rfl rfl rfl rfl (by kernel_rfl) Try.func7 (by kernel_rfl)
    (of_decide_eq_true (by kernel_rfl)) (by unfold Func.isWrapper; first | (rw [if_pos (by decide +kernel)]; kernel_rfl) | (rw [if_neg (by decide +kernel)]; exact ⟨rfl, rfl⟩))
    (fun os started H enc _ => lifted os started H enc)
theorem proved : Rows.FnExactAfterGradeSaid := over
end Go.Proofs.Ytembbdhhpblapaa.fnExactAfterGrade
namespace Go.Proofs.Ytembbdhhpblapaa
/-- The row, under a short name, for the claim. -/
theorem fnExactAfterGrade_holds : Rows.FnExactAfterGradeSaid := fnExactAfterGrade.proved
end Go.Proofs.Ytembbdhhpblapaa

#print axioms Go.Proofs.Ytembbdhhpblapaa.fnExactAfterGrade_holds
