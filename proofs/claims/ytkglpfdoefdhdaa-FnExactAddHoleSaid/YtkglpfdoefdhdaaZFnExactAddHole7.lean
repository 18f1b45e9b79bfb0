/- The program's AddHole returns what the reference's returns, for all arguments: no condition. -/
import Derived.KernelRfl
import Derived.Test.YtkglpfdoefdhdaaRows
import Derived.WalkKit
import Derived.ProofKit
import Derived.OpenShut
import Derived.ShutString
import Derived.ChangeOld
import Derived.Below
import Derived.SizedLaws
import Derived.Carry
import Derived.ChangeVars
import Derived.Test.YtkglpfdoefdhdaaZFnExactAddHole6
namespace Go.Proofs.Ytkglpfdoefdhdaa.WK
open Go Go.RowKit Go.Proofs.Ytkglpfdoefdhdaa.Q Go.Proofs.Ytkglpfdoefdhdaa.M Go.Proofs.YtkglpfdoefdhdaaW.PrintWords Go.Proofs.YtkglpfdoefdhdaaW.SL
open Go.Proofs.YtkglpfdoefdhdaaW.Pl (nth nth_get)
set_option linter.unusedSimpArgs false
set_option linter.unusedVariables false
set_option maxRecDepth 100000
namespace AH
open MO (mixed agg26 agg76 el24 el65 sc3 goodHole)
open FM (outH zero76 fill4 ap65)
open IH (enc flat76 insL insL_len insert_ bsearch)
theorem en63 : Ent Try.prog 63 := ⟨enters_of Try.func63 (by kernel_rfl) rfl⟩
theorem en116 : Ent Try.prog 116 := ⟨enters_of Try.func116 (by kernel_rfl) rfl⟩
theorem en118 : Ent Try.prog 118 := ⟨enters_of Try.func118 (by kernel_rfl) rfl⟩
theorem en119 : Ent Try.prog 119 := ⟨enters_of Try.func119 (by kernel_rfl) rfl⟩
section
variable {β : Type} {bef : β → β → Bool} {z : β}
/-- How many stand before x. -/
def cntB (bef : β → β → Bool) (l : List β) (x : β) : Nat := (l.takeWhile fun y => bef y x).length
theorem cntB_le {l : List β} {x : β} : cntB bef l x ≤ l.length := by
  have := (List.takeWhile_prefix (fun y => bef y x) (l := l)).length_le
  exact this
theorem cntB_lt : ∀ {l : List β} {x : β} {t : Nat}, t < cntB bef l x → bef (nth l t z) x = true
  | [], x, t, h => by simp [cntB] at h
  | y :: l, x, t, h => by
    unfold cntB at h
    rw [List.takeWhile_cons] at h
    by_cases hy : bef y x = true
    · rw [if_pos hy] at h
      cases t with
      | zero => exact hy
      | succ t => exact cntB_lt (l := l) (by unfold cntB; simp only [List.length_cons] at h; omega)
    · rw [if_neg hy] at h; simp at h
theorem cntB_at : ∀ {l : List β} {x : β}, cntB bef l x < l.length → bef (nth l (cntB bef l x) z) x = false
  | [], x, h => by simp at h
  | y :: l, x, h => by
    unfold cntB at h ⊢
    rw [List.takeWhile_cons] at h ⊢
    by_cases hy : bef y x = true
    · rw [if_pos hy] at h ⊢
      exact cntB_at (l := l) (by unfold cntB; simp only [List.length_cons] at h; omega)
    · rw [if_neg hy]
      simpa [nth] using hy
theorem asc_lt (tr : ∀ a b c, bef a b = true → bef b c = true → bef a c = true) {l : List β} (hs : ∀ i, i + 1 < l.length → bef (nth l i z) (nth l (i + 1) z) = true) : ∀ (d i : Nat), i + d + 1 < l.length → bef (nth l i z) (nth l (i + d + 1) z) = true
  | 0, i, h => hs i h
  | d + 1, i, h => tr _ _ _ (asc_lt tr hs d i (by omega)) (hs (i + d + 1) (by omega))
theorem cntB_ge (tr : ∀ a b c, bef a b = true → bef b c = true → bef a c = true) {l : List β} {x : β} (hs : ∀ i, i + 1 < l.length → bef (nth l i z) (nth l (i + 1) z) = true) {t : Nat} (h1 : cntB bef l x ≤ t) (h2 : t < l.length) : bef (nth l t z) x = false := by
  rcases Nat.eq_or_lt_of_le h1 with h | h
  · subst h; exact cntB_at h2
  · cases hb : bef (nth l t z) x with
    | false => rfl
    | true =>
      have e1 := asc_lt tr hs (t - cntB bef l x - 1) (cntB bef l x) (by omega)
      rw [show cntB bef l x + (t - cntB bef l x - 1) + 1 = t by omega] at e1
      have := tr _ _ _ e1 hb
      rw [cntB_at (bef := bef) (l := l) (x := x) (z := z) (by omega)] at this
      cases this
end
def insK (l : List S76) (x : S76) : Nat := cntB befH l x
theorem insK_le {l : List S76} {x : S76} : insK l x ≤ l.length := cntB_le
def cfH (x y : S76) : Int := orI (cmpI y.f0 x.f0) (cmpI y.f1 x.f1)
theorem cfH_lt (x y : S76) : cfH x y < 0 ↔ befH y x = true := by
  have := comp_bef y x
  unfold cfH
  cases h : befH y x with
  | true => rw [h] at this; simp at this ⊢; exact this
  | false => rw [h] at this; simp at this ⊢; exact this
theorem bef_tr (a b c : S76) (h1 : befH a b = true) (h2 : befH b c = true) : befH a c = true := by
  unfold befH at *
  rw [decide_eq_true_iff] at *
  omega
theorem good_asc {wd ht : Int} {cs : List Int} {l : List S76} (hg : goodH wd ht cs l = true) : ∀ i, i + 1 < l.length → befH (nth l i z76) (nth l (i + 1) z76) = true := fun i hi => by
  have h := (goodH_at hg).2.2 (i + 1) hi
  unfold holeAt ascH at h
  simp at h
  exact h.2.1
theorem clone_f (l : List S76) (hlb : l.length ≤ 1048576) : impl_Hole_119.f l = some l := by
  unfold impl_Hole_119.f
  simp
  omega
theorem bs_ {wd ht : Int} {cs : List Int} {l : List S76} (hg : goodH wd ht cs l = true) (x : S76) (hlb : l.length ≤ 1048576) : ∃ fd : Bool, ∀ (A1 : Option Addr) (c1 : Nat) (w : World), Kd.C k76 w A1 l.length l → l.length ≤ c1 → Calls Try.prog 116 #[.slice A1 l.length c1, .agg #[.int .i64 x.f0, .int .i64 x.f1, .int .i64 x.f2, .int .i64 x.f3], .func (.func 117) #[] #[]] w fun e w' => e = .returned (.tuple #[.int .i64 ((insK l x : Nat) : Int), .bool fd]) ∧ Below w.heap.size w w' := by
  refine ⟨_, fun A1 c1 w hr hc => bsearch l x (cfH x) (insK l x) _ A1 c1 w hr hc hlb insK_le (fun t ht => (cfH_lt x _).2 (cntB_lt ht)) (fun t h1 h2 => ?_) rfl (fun y W => ?_)⟩
  · have := cntB_ge bef_tr (good_asc hg) h1 h2
    rw [← Int.not_lt, cfH_lt, this]
    simp
  · obtain ⟨k, hk⟩ := (iComp y x).rounds
    exact impl_Hole_compare.calls k y.f0 y.f1 y.f2 y.f3 x.f0 x.f1 x.f2 x.f3 _ W hk
set_option maxHeartbeats 4000000 in
/-- AddHole at holes that are none. -/
theorem aiNo {wd ht : Int} {cs : List Int} {l : List S76} (x : S76) (A0 : Option Addr) (c0 : Nat) (A1 : Option Addr) (c1 : Nat) (w : World) (hrC : Kd.C (Kd.int .i64) w A0 cs.length cs) (hc : cs.length ≤ c0) (hrH : Kd.C k76 w A1 l.length l) (hcl : l.length ≤ c1) (hlb : l.length ≤ 1048576) (hg : goodH wd ht cs l = false) : Calls Try.prog 51 #[.agg #[.int .i64 wd, .int .i64 ht, .slice A0 cs.length c0], .slice A1 l.length c1, .agg #[.int .i64 x.f0, .int .i64 x.f1, .int .i64 x.f2, .int .i64 x.f3]] w fun e w' => ∃ v, e = .returned (.tuple #[v, .bool false]) ∧ k76.R 76 w' w.heap.size (fun _ => True) v [] ∧ Below w.heap.size w w' := by
  obtain ⟨kk, hk⟩ := (iHoles wd ht cs l hlb).rounds
  rw [hg] at hk
  let Rr : Ending → World → Prop := fun e w' => ∃ v, e = .returned (.tuple #[v, .bool false]) ∧ k76.R 76 w' w.heap.size (fun _ => True) v [] ∧ Below w.heap.size w w'
  refine enterW (args := [.agg #[.int .i64 wd, .int .i64 ht, .slice A0 cs.length c0], .slice A1 l.length c1, .agg #[.int .i64 x.f0, .int .i64 x.f1, .int .i64 x.f2, .int .i64 x.f3]]) [(fun W => Kd.C (Kd.int .i64) W A0 cs.length cs), (fun W => Kd.C k76 W A1 l.length l)] (fun p hp W hb => by
    rcases List.mem_cons.1 hp with rfl | hp
    · exact Kd.C_below hrC hb
    · rw [List.mem_singleton.1 hp]; exact Kd.C_below hrH hb) Try.func51 rfl rfl ?_
  show Cj Try.prog _ _ _ (bodyPost Try.prog Try.f51 Rr) _ _ _
  repeat (first
    | (apply gateO; first
      | refine Jl.yd (Y.mv rfl rfl) rfl rfl rfl ?_
      | refine Jl.yd (Y.asg rfl rfl) rfl rfl rfl ?_
      | refine Jl.yd (Y.ext rfl rfl rfl) rfl rfl rfl ?_
      | refine Jl.yd (Y.pickT rfl rfl rfl) rfl rfl rfl ?_
      | refine Jl.yd (Y.pickF rfl rfl rfl) rfl rfl rfl ?_
      | refine Jl.off rfl rfl rfl ?_
      | refine Jl.yd (Y.cmpF rfl rfl rfl rfl (by omega)) rfl rfl rfl ?_
      | refine Jl.yd (Y.cmpT rfl rfl rfl rfl (by omega)) rfl rfl rfl ?_
      | refine Jl.yd (Y.neqB rfl rfl rfl Try.underlying4) rfl rfl rfl ?_
      | refine Jl.yd (Y.cmp rfl rfl rfl rfl) rfl rfl rfl ?_
      | refine Jl.yd (Y.not rfl rfl) rfl rfl rfl ?_
      | refine Jl.yd (Y.arithN rfl rfl rfl rfl (by omega)) rfl rfl rfl ?_
      | refine Jl.yd (Y.arith64 rfl rfl rfl rfl) rfl rfl rfl ?_
      | refine Jl.yd (Y.loadA rfl rfl agg26 (by repeat (first | exact .head _ | refine .tail _ ?_)) (by rfl)) rfl rfl rfl ?_
      | refine Jl.yd (Y.loadA rfl rfl agg76 (by repeat (first | exact .head _ | refine .tail _ ?_)) (by rfl)) rfl rfl rfl ?_
      | refine Jl.yd (Y.lenS Try.underlying65 rfl rfl rfl) rfl rfl rfl ?_
      | refine Jl.box (zs := [.int .i64 wd, .int .i64 ht, .slice A0 cs.length c0]) rfl rfl rfl rfl rfl (by rfl) (fun gc => ?_)
      | refine Jl.box (zs := [.int .i64 x.f0, .int .i64 x.f1, .int .i64 x.f2, .int .i64 x.f3]) rfl rfl rfl rfl rfl (by rfl) (fun gx => ?_)
      | refine Jl.call1 (v := .bool false) rfl rfl rfl rfl en63 rfl (fun w hW => by with_reducible exact impl_AreHoles.calls kk wd ht A0 c0 cs A1 c1 l false w (hW.fact (p := (fun W => Kd.C (Kd.int .i64) W A0 cs.length cs)) (by repeat (first | exact memH | refine memT ?_))) hc (hW.fact (p := (fun W => Kd.C k76 W A1 l.length l)) (by repeat (first | exact memH | refine memT ?_))) hcl hk) ?_
      | refine Jl.splitG rfl rfl (fun h => ?_) (fun h => ?_))
    | (apply gateE; first
      | refine Jl.nil (Ej.go ?_ (fun _ _ h => h))
      | (refine Jl.nil (Ej.back (fun _ _ h => h) (by repeat (first | exact .refl | apply DropTo.tail)) ?_); repeat (first | exact trivial | refine ⟨rfl, ?_⟩)))
    | (apply gateC; first
      | refine Cj.ret rfl (Ej.out2 (P := Try.prog) (fn := Try.f51) (R := Rr) (fun _ _ h => h) rfl rfl rfl (fun w' hW => ⟨_, rfl, Kd.R_nil _ _ _ _ _, hW.below⟩))
      | refine Cj.condF rfl rfl (Cj.skip rfl (Ej.go ?_ (fun _ _ h => h)))
      | (refine Cj.condF rfl rfl (Cj.skip rfl (Ej.back (fun _ _ h => h) (by repeat (first | exact .refl | apply DropTo.tail)) ?_)); repeat (first | exact trivial | refine ⟨rfl, ?_⟩))
      | refine Cj.condF rfl rfl ?_
      | refine Cj.condT rfl rfl ?_
      | refine Cj.exit rfl (Ej.go ?_ (fun _ _ h => h))
      | refine Cj.cond rfl rfl (fun h => ?_) (fun h => ?_)
      | refine Cj.skip rfl (Ej.go ?_ (fun _ _ h => h))
      | (refine Cj.skip rfl (Ej.back (fun _ _ h => h) (by repeat (first | exact .refl | apply DropTo.tail)) ?_); repeat (first | exact trivial | refine ⟨rfl, ?_⟩))
      | refine Cj.seq rfl ?_
      | refine Cj.region rfl ?_))
set_option maxHeartbeats 8000000 in
/-- AddHole at a hole that does not fit. -/
theorem aiBad {wd ht : Int} {cs : List Int} {l : List S76} (x : S76) (A0 : Option Addr) (c0 : Nat) (A1 : Option Addr) (c1 : Nat) (w : World) (hrC : Kd.C (Kd.int .i64) w A0 cs.length cs) (hc : cs.length ≤ c0) (hrH : Kd.C k76 w A1 l.length l) (hcl : l.length ≤ c1) (hlb : l.length ≤ 1048576) (hg : goodH wd ht cs l = true) (hg2 : goodH wd ht cs (insL l (insK l x) x) = false) : Calls Try.prog 51 #[.agg #[.int .i64 wd, .int .i64 ht, .slice A0 cs.length c0], .slice A1 l.length c1, .agg #[.int .i64 x.f0, .int .i64 x.f1, .int .i64 x.f2, .int .i64 x.f3]] w fun e w' => ∃ v, e = .returned (.tuple #[v, .bool false]) ∧ k76.R 76 w' w.heap.size (fun _ => True) v [] ∧ Below w.heap.size w w' := by
  obtain ⟨kk, hk⟩ := (iHoles wd ht cs l hlb).rounds
  rw [hg] at hk
  obtain ⟨_, hl8, _⟩ := goodHole hg
  have hil : (insL l (insK l x) x).length = l.length + 1 := insL_len x insK_le
  obtain ⟨kk2, hk2⟩ := (iHoles wd ht cs (insL l (insK l x) x) (by omega)).rounds
  rw [hg2] at hk2
  have hcn := clone_f l hlb
  obtain ⟨fd, hbs⟩ := bs_ hg x hlb
  let Rr : Ending → World → Prop := fun e w' => ∃ v, e = .returned (.tuple #[v, .bool false]) ∧ k76.R 76 w' w.heap.size (fun _ => True) v [] ∧ Below w.heap.size w w'
  refine enterW (args := [.agg #[.int .i64 wd, .int .i64 ht, .slice A0 cs.length c0], .slice A1 l.length c1, .agg #[.int .i64 x.f0, .int .i64 x.f1, .int .i64 x.f2, .int .i64 x.f3]]) [(fun W => Kd.C (Kd.int .i64) W A0 cs.length cs), (fun W => Kd.C k76 W A1 l.length l)] (fun p hp W hb => by
    rcases List.mem_cons.1 hp with rfl | hp
    · exact Kd.C_below hrC hb
    · rw [List.mem_singleton.1 hp]; exact Kd.C_below hrH hb) Try.func51 rfl rfl ?_
  show Cj Try.prog _ _ _ (bodyPost Try.prog Try.f51 Rr) _ _ _
  repeat (first
    | (apply gateO; first
      | refine Jl.yd (Y.mv rfl rfl) rfl rfl rfl ?_
      | refine Jl.yd (Y.asg rfl rfl) rfl rfl rfl ?_
      | refine Jl.yd (Y.ext rfl rfl rfl) rfl rfl rfl ?_
      | refine Jl.yd (Y.pickT rfl rfl rfl) rfl rfl rfl ?_
      | refine Jl.yd (Y.pickF rfl rfl rfl) rfl rfl rfl ?_
      | refine Jl.off rfl rfl rfl ?_
      | refine Jl.yd (Y.cmpF rfl rfl rfl rfl (by omega)) rfl rfl rfl ?_
      | refine Jl.yd (Y.cmpT rfl rfl rfl rfl (by omega)) rfl rfl rfl ?_
      | refine Jl.yd (Y.neqB rfl rfl rfl Try.underlying4) rfl rfl rfl ?_
      | refine Jl.yd (Y.cmp rfl rfl rfl rfl) rfl rfl rfl ?_
      | refine Jl.yd (Y.not rfl rfl) rfl rfl rfl ?_
      | refine Jl.yd (Y.arithN rfl rfl rfl rfl (by omega)) rfl rfl rfl ?_
      | refine Jl.yd (Y.arith64 rfl rfl rfl rfl) rfl rfl rfl ?_
      | refine Jl.yd (Y.loadA rfl rfl agg26 (by repeat (first | exact .head _ | refine .tail _ ?_)) (by rfl)) rfl rfl rfl ?_
      | refine Jl.yd (Y.loadA rfl rfl agg76 (by repeat (first | exact .head _ | refine .tail _ ?_)) (by rfl)) rfl rfl rfl ?_
      | refine Jl.yd (Y.lenS Try.underlying65 rfl rfl rfl) rfl rfl rfl ?_
      | refine Jl.box (zs := [.int .i64 wd, .int .i64 ht, .slice A0 cs.length c0]) rfl rfl rfl rfl rfl (by rfl) (fun gc => ?_)
      | refine Jl.box (zs := [.int .i64 x.f0, .int .i64 x.f1, .int .i64 x.f2, .int .i64 x.f3]) rfl rfl rfl rfl rfl (by rfl) (fun gx => ?_)
      | refine Jl.call1 (v := .bool true) rfl rfl rfl rfl en63 rfl (fun w hW => by with_reducible exact impl_AreHoles.calls kk wd ht A0 c0 cs A1 c1 l true w (hW.fact (p := (fun W => Kd.C (Kd.int .i64) W A0 cs.length cs)) (by repeat (first | exact memH | refine memT ?_))) hc (hW.fact (p := (fun W => Kd.C k76 W A1 l.length l)) (by repeat (first | exact memH | refine memT ?_))) hcl hk) ?_
      | refine Jl.call1 (v := .tuple #[.int .i64 ((insK l x : Nat) : Int), .bool fd]) rfl rfl rfl rfl en116 rfl (fun w hW => by with_reducible exact hbs A1 c1 w (hW.fact (p := (fun W => Kd.C k76 W A1 l.length l)) (by repeat (first | exact memH | refine memT ?_))) hcl) ?_
      | refine Jl.splitG rfl rfl (fun h => ?_) (fun h => ?_))
    | (apply gateE; first
      | refine Jl.nil (Ej.go ?_ (fun _ _ h => h))
      | (refine Jl.nil (Ej.back (fun _ _ h => h) (by repeat (first | exact .refl | apply DropTo.tail)) ?_); repeat (first | exact trivial | refine ⟨rfl, ?_⟩)))
    | (apply gateC; first
      | refine Cj.condF rfl rfl (Cj.skip rfl (Ej.go ?_ (fun _ _ h => h)))
      | (refine Cj.condF rfl rfl (Cj.skip rfl (Ej.back (fun _ _ h => h) (by repeat (first | exact .refl | apply DropTo.tail)) ?_)); repeat (first | exact trivial | refine ⟨rfl, ?_⟩))
      | refine Cj.condF rfl rfl ?_
      | refine Cj.condT rfl rfl ?_
      | refine Cj.exit rfl (Ej.go ?_ (fun _ _ h => h))
      | refine Cj.cond rfl rfl (fun h => ?_) (fun h => ?_)
      | refine Cj.skip rfl (Ej.go ?_ (fun _ _ h => h))
      | (refine Cj.skip rfl (Ej.back (fun _ _ h => h) (by repeat (first | exact .refl | apply DropTo.tail)) ?_); repeat (first | exact trivial | refine ⟨rfl, ?_⟩))
      | refine Cj.seq rfl ?_
      | refine Cj.region rfl ?_))
  refine Cj.regionJ rfl [5] mixed ?_
  refine Jw.take 0 rfl (by decide +kernel) (by intro c a d v w h; cases d <;> exact h) (fun w => Y.mv rfl rfl) rfl rfl rfl ?_
  refine Jw.take 2 rfl (by decide +kernel) (by intro c a d v w h; cases d <;> exact h) (fun w => Y.mv rfl rfl) rfl rfl rfl ?_
  refine Jw.takeR 3 rfl (by decide +kernel) (by intro c a d v w h; cases d <;> exact h) (Y.loadA rfl rfl agg76 (by repeat (first | exact .head _ | refine .tail _ ?_)) (by rfl)) rfl rfl rfl ?_
  refine Jw.br2 (mkD [] []) 1 4 rfl rfl (by decide +kernel) rfl rfl ?_ ?_
  · skip
    refine Jl.callR 0 (fun v => v) rfl rfl rfl rfl en119 rfl (fun w hW => by with_reducible exact impl_Hole_119.calls A1 c1 l l w (hW.fact (p := (fun W => Kd.C k76 W A1 l.length l)) (by repeat (first | exact memH | refine memT ?_))) hcl hcn) (fun A2 c2 h2 => ?_)
    refine Jl.jw ?_
    refine Jw.step (mkD [] []) 4 rfl (by decide +kernel) rfl rfl ?_
    refine Jl.litS (us := [.int .i64 x.f0, .int .i64 x.f1, .int .i64 x.f2, .int .i64 x.f3]) (zs := [.int .i64 0, .int .i64 0, .int .i64 0, .int .i64 0]) rfl rfl rfl rfl rfl el65 zero76 rfl rfl (fill4 _ _ _ _ _ _ _ _) (fun g9 => ?_)
    refine Jl.jw ?_
    refine Jw.step (mkD [] [0]) 5 rfl (by decide +kernel) rfl rfl ?_
    refine Jl.callX (ι := Option Addr × Nat) (fun q => (insL l (insK l x) x).length ≤ q.2) (fun q => .slice q.1 (insL l (insK l x) x).length q.2) (.row k76 76 0 (.slice A2 l.length c2) l) (fun q => .row k76 76 0 (.slice q.1 (insL l (insK l x) x).length q.2) (insL l (insK l x) x)) rfl rfl rfl rfl en118 rfl (by repeat (first | exact .z | apply OutAt.s)) (fun w A hA hB => (insert_ l x (insK l x) A2 c2 1 g9 w A hA hlb insK_le (fun W hW => Box_at (hB W hW) (by repeat (first | exact .head _ | refine .tail _ ?_)))).mono (fun e w' hh => by obtain ⟨A', c', g1, g2, g3⟩ := hh; exact ⟨(A', c'), g2, g1, g3⟩)) (fun q hq => ?_)
    refine Jl.jw ?_
    refine Jw.take 6 rfl (by decide +kernel) (by intro c a d v w h; cases d <;> exact h) (fun w => Y.asg rfl rfl) rfl rfl rfl ?_
    refine Jw.done (by decide +kernel) (Ej.go ?_ (fun _ _ h => h))
    repeat (first
        | (apply gateO; first
          | refine Jl.yd (Y.mv rfl rfl) rfl rfl rfl ?_
          | refine Jl.yd (Y.asg rfl rfl) rfl rfl rfl ?_
          | refine Jl.yd (Y.ext rfl rfl rfl) rfl rfl rfl ?_
          | refine Jl.yd (Y.pickT rfl rfl rfl) rfl rfl rfl ?_
          | refine Jl.yd (Y.pickF rfl rfl rfl) rfl rfl rfl ?_
          | refine Jl.off rfl rfl rfl ?_
          | refine Jl.yd (Y.cmpF rfl rfl rfl rfl (by omega)) rfl rfl rfl ?_
          | refine Jl.yd (Y.cmpT rfl rfl rfl rfl (by omega)) rfl rfl rfl ?_
          | refine Jl.yd (Y.neqB rfl rfl rfl Try.underlying4) rfl rfl rfl ?_
          | refine Jl.yd (Y.cmp rfl rfl rfl rfl) rfl rfl rfl ?_
          | refine Jl.yd (Y.not rfl rfl) rfl rfl rfl ?_
          | refine Jl.yd (Y.arithN rfl rfl rfl rfl (by omega)) rfl rfl rfl ?_
          | refine Jl.yd (Y.arith64 rfl rfl rfl rfl) rfl rfl rfl ?_
          | refine Jl.yd (Y.loadA rfl rfl agg26 (by repeat (first | exact .head _ | refine .tail _ ?_)) (by rfl)) rfl rfl rfl ?_
          | refine Jl.yd (Y.loadA rfl rfl agg76 (by repeat (first | exact .head _ | refine .tail _ ?_)) (by rfl)) rfl rfl rfl ?_
          | refine Jl.yd (Y.lenS Try.underlying65 rfl rfl rfl) rfl rfl rfl ?_
          | refine Jl.call1 (v := .bool false) rfl rfl rfl rfl en63 rfl (fun w hW => by with_reducible exact impl_AreHoles.calls kk2 wd ht A0 c0 cs _ _ (insL l (insK l x) x) false w (hW.fact (p := (fun W => Kd.C (Kd.int .i64) W A0 cs.length cs)) (by repeat (first | exact memH | refine memT ?_))) hc (hW.rowC (by repeat (first | exact memH | refine memT ?_))) (hW.rowCap (by repeat (first | exact memH | refine memT ?_))).2 hk2) ?_
          | refine Jl.splitG rfl rfl (fun h => ?_) (fun h => ?_))
        | (apply gateE; first
          | refine Jl.nil (Ej.go ?_ (fun _ _ h => h))
          | (refine Jl.nil (Ej.back (fun _ _ h => h) (by repeat (first | exact .refl | apply DropTo.tail)) ?_); repeat (first | exact trivial | refine ⟨rfl, ?_⟩)))
        | (apply gateC; first
          | refine Cj.ret rfl (Ej.out2 (P := Try.prog) (fn := Try.f51) (R := Rr) (fun _ _ h => h) rfl rfl rfl (fun w' hW => ⟨_, rfl, Kd.R_nil _ _ _ _ _, hW.below⟩))
          | refine Cj.condF rfl rfl (Cj.skip rfl (Ej.go ?_ (fun _ _ h => h)))
          | (refine Cj.condF rfl rfl (Cj.skip rfl (Ej.back (fun _ _ h => h) (by repeat (first | exact .refl | apply DropTo.tail)) ?_)); repeat (first | exact trivial | refine ⟨rfl, ?_⟩))
          | refine Cj.condF rfl rfl ?_
          | refine Cj.condT rfl rfl ?_
          | refine Cj.exit rfl (Ej.go ?_ (fun _ _ h => h))
          | refine Cj.cond rfl rfl (fun h => ?_) (fun h => ?_)
          | refine Cj.skip rfl (Ej.go ?_ (fun _ _ h => h))
          | (refine Cj.skip rfl (Ej.back (fun _ _ h => h) (by repeat (first | exact .refl | apply DropTo.tail)) ?_); repeat (first | exact trivial | refine ⟨rfl, ?_⟩))
          | refine Cj.seq rfl ?_
          | refine Cj.region rfl ?_))
  · skip
    refine Jl.litS (us := [.int .i64 x.f0, .int .i64 x.f1, .int .i64 x.f2, .int .i64 x.f3]) (zs := [.int .i64 0, .int .i64 0, .int .i64 0, .int .i64 0]) rfl rfl rfl rfl rfl el65 zero76 rfl rfl (fill4 _ _ _ _ _ _ _ _) (fun g9 => ?_)
    refine Jl.jw ?_
    refine Jw.step (mkD [] []) 1 rfl (by decide +kernel) rfl rfl ?_
    refine Jl.callR 0 (fun v => v) rfl rfl rfl rfl en119 rfl (fun w hW => by with_reducible exact impl_Hole_119.calls A1 c1 l l w (hW.fact (p := (fun W => Kd.C k76 W A1 l.length l)) (by repeat (first | exact memH | refine memT ?_))) hcl hcn) (fun A2 c2 h2 => ?_)
    refine Jl.jw ?_
    refine Jw.step (mkD [] [0]) 5 rfl (by decide +kernel) rfl rfl ?_
    refine Jl.callX (ι := Option Addr × Nat) (fun q => (insL l (insK l x) x).length ≤ q.2) (fun q => .slice q.1 (insL l (insK l x) x).length q.2) (.row k76 76 0 (.slice A2 l.length c2) l) (fun q => .row k76 76 0 (.slice q.1 (insL l (insK l x) x).length q.2) (insL l (insK l x) x)) rfl rfl rfl rfl en118 rfl (by repeat (first | exact .z | apply OutAt.s)) (fun w A hA hB => (insert_ l x (insK l x) A2 c2 1 g9 w A hA hlb insK_le (fun W hW => Box_at (hB W hW) (by repeat (first | exact .head _ | refine .tail _ ?_)))).mono (fun e w' hh => by obtain ⟨A', c', g1, g2, g3⟩ := hh; exact ⟨(A', c'), g2, g1, g3⟩)) (fun q hq => ?_)
    refine Jl.jw ?_
    refine Jw.take 6 rfl (by decide +kernel) (by intro c a d v w h; cases d <;> exact h) (fun w => Y.asg rfl rfl) rfl rfl rfl ?_
    refine Jw.done (by decide +kernel) (Ej.go ?_ (fun _ _ h => h))
    repeat (first
        | (apply gateO; first
          | refine Jl.yd (Y.mv rfl rfl) rfl rfl rfl ?_
          | refine Jl.yd (Y.asg rfl rfl) rfl rfl rfl ?_
          | refine Jl.yd (Y.ext rfl rfl rfl) rfl rfl rfl ?_
          | refine Jl.yd (Y.pickT rfl rfl rfl) rfl rfl rfl ?_
          | refine Jl.yd (Y.pickF rfl rfl rfl) rfl rfl rfl ?_
          | refine Jl.off rfl rfl rfl ?_
          | refine Jl.yd (Y.cmpF rfl rfl rfl rfl (by omega)) rfl rfl rfl ?_
          | refine Jl.yd (Y.cmpT rfl rfl rfl rfl (by omega)) rfl rfl rfl ?_
          | refine Jl.yd (Y.neqB rfl rfl rfl Try.underlying4) rfl rfl rfl ?_
          | refine Jl.yd (Y.cmp rfl rfl rfl rfl) rfl rfl rfl ?_
          | refine Jl.yd (Y.not rfl rfl) rfl rfl rfl ?_
          | refine Jl.yd (Y.arithN rfl rfl rfl rfl (by omega)) rfl rfl rfl ?_
          | refine Jl.yd (Y.arith64 rfl rfl rfl rfl) rfl rfl rfl ?_
          | refine Jl.yd (Y.loadA rfl rfl agg26 (by repeat (first | exact .head _ | refine .tail _ ?_)) (by rfl)) rfl rfl rfl ?_
          | refine Jl.yd (Y.loadA rfl rfl agg76 (by repeat (first | exact .head _ | refine .tail _ ?_)) (by rfl)) rfl rfl rfl ?_
          | refine Jl.yd (Y.lenS Try.underlying65 rfl rfl rfl) rfl rfl rfl ?_
          | refine Jl.call1 (v := .bool false) rfl rfl rfl rfl en63 rfl (fun w hW => by with_reducible exact impl_AreHoles.calls kk2 wd ht A0 c0 cs _ _ (insL l (insK l x) x) false w (hW.fact (p := (fun W => Kd.C (Kd.int .i64) W A0 cs.length cs)) (by repeat (first | exact memH | refine memT ?_))) hc (hW.rowC (by repeat (first | exact memH | refine memT ?_))) (hW.rowCap (by repeat (first | exact memH | refine memT ?_))).2 hk2) ?_
          | refine Jl.splitG rfl rfl (fun h => ?_) (fun h => ?_))
        | (apply gateE; first
          | refine Jl.nil (Ej.go ?_ (fun _ _ h => h))
          | (refine Jl.nil (Ej.back (fun _ _ h => h) (by repeat (first | exact .refl | apply DropTo.tail)) ?_); repeat (first | exact trivial | refine ⟨rfl, ?_⟩)))
        | (apply gateC; first
          | refine Cj.ret rfl (Ej.out2 (P := Try.prog) (fn := Try.f51) (R := Rr) (fun _ _ h => h) rfl rfl rfl (fun w' hW => ⟨_, rfl, Kd.R_nil _ _ _ _ _, hW.below⟩))
          | refine Cj.condF rfl rfl (Cj.skip rfl (Ej.go ?_ (fun _ _ h => h)))
          | (refine Cj.condF rfl rfl (Cj.skip rfl (Ej.back (fun _ _ h => h) (by repeat (first | exact .refl | apply DropTo.tail)) ?_)); repeat (first | exact trivial | refine ⟨rfl, ?_⟩))
          | refine Cj.condF rfl rfl ?_
          | refine Cj.condT rfl rfl ?_
          | refine Cj.exit rfl (Ej.go ?_ (fun _ _ h => h))
          | refine Cj.cond rfl rfl (fun h => ?_) (fun h => ?_)
          | refine Cj.skip rfl (Ej.go ?_ (fun _ _ h => h))
          | (refine Cj.skip rfl (Ej.back (fun _ _ h => h) (by repeat (first | exact .refl | apply DropTo.tail)) ?_); repeat (first | exact trivial | refine ⟨rfl, ?_⟩))
          | refine Cj.seq rfl ?_
          | refine Cj.region rfl ?_))
set_option maxHeartbeats 8000000 in
/-- AddHole. -/
theorem aiYes {wd ht : Int} {cs : List Int} {l : List S76} (x : S76) (A0 : Option Addr) (c0 : Nat) (A1 : Option Addr) (c1 : Nat) (w : World) (hrC : Kd.C (Kd.int .i64) w A0 cs.length cs) (hc : cs.length ≤ c0) (hrH : Kd.C k76 w A1 l.length l) (hcl : l.length ≤ c1) (hlb : l.length ≤ 1048576) (hg : goodH wd ht cs l = true) (hg2 : goodH wd ht cs (insL l (insK l x) x) = true) : Calls Try.prog 51 #[.agg #[.int .i64 wd, .int .i64 ht, .slice A0 cs.length c0], .slice A1 l.length c1, .agg #[.int .i64 x.f0, .int .i64 x.f1, .int .i64 x.f2, .int .i64 x.f3]] w fun e w' => ∃ v, e = .returned (.tuple #[v, .bool true]) ∧ k76.R 76 w' w.heap.size (fun _ => True) v (insL l (insK l x) x) ∧ Below w.heap.size w w' := by
  obtain ⟨kk, hk⟩ := (iHoles wd ht cs l hlb).rounds
  rw [hg] at hk
  obtain ⟨_, hl8, _⟩ := goodHole hg
  have hil : (insL l (insK l x) x).length = l.length + 1 := insL_len x insK_le
  obtain ⟨kk2, hk2⟩ := (iHoles wd ht cs (insL l (insK l x) x) (by omega)).rounds
  rw [hg2] at hk2
  have hcn := clone_f l hlb
  obtain ⟨fd, hbs⟩ := bs_ hg x hlb
  let Rr : Ending → World → Prop := fun e w' => ∃ v, e = .returned (.tuple #[v, .bool true]) ∧ k76.R 76 w' w.heap.size (fun _ => True) v (insL l (insK l x) x) ∧ Below w.heap.size w w'
  refine enterW (args := [.agg #[.int .i64 wd, .int .i64 ht, .slice A0 cs.length c0], .slice A1 l.length c1, .agg #[.int .i64 x.f0, .int .i64 x.f1, .int .i64 x.f2, .int .i64 x.f3]]) [(fun W => Kd.C (Kd.int .i64) W A0 cs.length cs), (fun W => Kd.C k76 W A1 l.length l)] (fun p hp W hb => by
    rcases List.mem_cons.1 hp with rfl | hp
    · exact Kd.C_below hrC hb
    · rw [List.mem_singleton.1 hp]; exact Kd.C_below hrH hb) Try.func51 rfl rfl ?_
  show Cj Try.prog _ _ _ (bodyPost Try.prog Try.f51 Rr) _ _ _
  repeat (first
    | (apply gateO; first
      | refine Jl.yd (Y.mv rfl rfl) rfl rfl rfl ?_
      | refine Jl.yd (Y.asg rfl rfl) rfl rfl rfl ?_
      | refine Jl.yd (Y.ext rfl rfl rfl) rfl rfl rfl ?_
      | refine Jl.yd (Y.pickT rfl rfl rfl) rfl rfl rfl ?_
      | refine Jl.yd (Y.pickF rfl rfl rfl) rfl rfl rfl ?_
      | refine Jl.off rfl rfl rfl ?_
      | refine Jl.yd (Y.cmpF rfl rfl rfl rfl (by omega)) rfl rfl rfl ?_
      | refine Jl.yd (Y.cmpT rfl rfl rfl rfl (by omega)) rfl rfl rfl ?_
      | refine Jl.yd (Y.neqB rfl rfl rfl Try.underlying4) rfl rfl rfl ?_
      | refine Jl.yd (Y.cmp rfl rfl rfl rfl) rfl rfl rfl ?_
      | refine Jl.yd (Y.not rfl rfl) rfl rfl rfl ?_
      | refine Jl.yd (Y.arithN rfl rfl rfl rfl (by omega)) rfl rfl rfl ?_
      | refine Jl.yd (Y.arith64 rfl rfl rfl rfl) rfl rfl rfl ?_
      | refine Jl.yd (Y.loadA rfl rfl agg26 (by repeat (first | exact .head _ | refine .tail _ ?_)) (by rfl)) rfl rfl rfl ?_
      | refine Jl.yd (Y.loadA rfl rfl agg76 (by repeat (first | exact .head _ | refine .tail _ ?_)) (by rfl)) rfl rfl rfl ?_
      | refine Jl.yd (Y.lenS Try.underlying65 rfl rfl rfl) rfl rfl rfl ?_
      | refine Jl.box (zs := [.int .i64 wd, .int .i64 ht, .slice A0 cs.length c0]) rfl rfl rfl rfl rfl (by rfl) (fun gc => ?_)
      | refine Jl.box (zs := [.int .i64 x.f0, .int .i64 x.f1, .int .i64 x.f2, .int .i64 x.f3]) rfl rfl rfl rfl rfl (by rfl) (fun gx => ?_)
      | refine Jl.call1 (v := .bool true) rfl rfl rfl rfl en63 rfl (fun w hW => by with_reducible exact impl_AreHoles.calls kk wd ht A0 c0 cs A1 c1 l true w (hW.fact (p := (fun W => Kd.C (Kd.int .i64) W A0 cs.length cs)) (by repeat (first | exact memH | refine memT ?_))) hc (hW.fact (p := (fun W => Kd.C k76 W A1 l.length l)) (by repeat (first | exact memH | refine memT ?_))) hcl hk) ?_
      | refine Jl.call1 (v := .tuple #[.int .i64 ((insK l x : Nat) : Int), .bool fd]) rfl rfl rfl rfl en116 rfl (fun w hW => by with_reducible exact hbs A1 c1 w (hW.fact (p := (fun W => Kd.C k76 W A1 l.length l)) (by repeat (first | exact memH | refine memT ?_))) hcl) ?_
      | refine Jl.splitG rfl rfl (fun h => ?_) (fun h => ?_))
    | (apply gateE; first
      | refine Jl.nil (Ej.go ?_ (fun _ _ h => h))
      | (refine Jl.nil (Ej.back (fun _ _ h => h) (by repeat (first | exact .refl | apply DropTo.tail)) ?_); repeat (first | exact trivial | refine ⟨rfl, ?_⟩)))
    | (apply gateC; first
      | refine Cj.condF rfl rfl (Cj.skip rfl (Ej.go ?_ (fun _ _ h => h)))
      | (refine Cj.condF rfl rfl (Cj.skip rfl (Ej.back (fun _ _ h => h) (by repeat (first | exact .refl | apply DropTo.tail)) ?_)); repeat (first | exact trivial | refine ⟨rfl, ?_⟩))
      | refine Cj.condF rfl rfl ?_
      | refine Cj.condT rfl rfl ?_
      | refine Cj.exit rfl (Ej.go ?_ (fun _ _ h => h))
      | refine Cj.cond rfl rfl (fun h => ?_) (fun h => ?_)
      | refine Cj.skip rfl (Ej.go ?_ (fun _ _ h => h))
      | (refine Cj.skip rfl (Ej.back (fun _ _ h => h) (by repeat (first | exact .refl | apply DropTo.tail)) ?_); repeat (first | exact trivial | refine ⟨rfl, ?_⟩))
      | refine Cj.seq rfl ?_
      | refine Cj.region rfl ?_))
  refine Cj.regionJ rfl [5] mixed ?_
  refine Jw.take 0 rfl (by decide +kernel) (by intro c a d v w h; cases d <;> exact h) (fun w => Y.mv rfl rfl) rfl rfl rfl ?_
  refine Jw.take 2 rfl (by decide +kernel) (by intro c a d v w h; cases d <;> exact h) (fun w => Y.mv rfl rfl) rfl rfl rfl ?_
  refine Jw.takeR 3 rfl (by decide +kernel) (by intro c a d v w h; cases d <;> exact h) (Y.loadA rfl rfl agg76 (by repeat (first | exact .head _ | refine .tail _ ?_)) (by rfl)) rfl rfl rfl ?_
  refine Jw.br2 (mkD [] []) 1 4 rfl rfl (by decide +kernel) rfl rfl ?_ ?_
  · skip
    refine Jl.callR 0 (fun v => v) rfl rfl rfl rfl en119 rfl (fun w hW => by with_reducible exact impl_Hole_119.calls A1 c1 l l w (hW.fact (p := (fun W => Kd.C k76 W A1 l.length l)) (by repeat (first | exact memH | refine memT ?_))) hcl hcn) (fun A2 c2 h2 => ?_)
    refine Jl.jw ?_
    refine Jw.step (mkD [] []) 4 rfl (by decide +kernel) rfl rfl ?_
    refine Jl.litS (us := [.int .i64 x.f0, .int .i64 x.f1, .int .i64 x.f2, .int .i64 x.f3]) (zs := [.int .i64 0, .int .i64 0, .int .i64 0, .int .i64 0]) rfl rfl rfl rfl rfl el65 zero76 rfl rfl (fill4 _ _ _ _ _ _ _ _) (fun g9 => ?_)
    refine Jl.jw ?_
    refine Jw.step (mkD [] [0]) 5 rfl (by decide +kernel) rfl rfl ?_
    refine Jl.callX (ι := Option Addr × Nat) (fun q => (insL l (insK l x) x).length ≤ q.2) (fun q => .slice q.1 (insL l (insK l x) x).length q.2) (.row k76 76 0 (.slice A2 l.length c2) l) (fun q => .row k76 76 0 (.slice q.1 (insL l (insK l x) x).length q.2) (insL l (insK l x) x)) rfl rfl rfl rfl en118 rfl (by repeat (first | exact .z | apply OutAt.s)) (fun w A hA hB => (insert_ l x (insK l x) A2 c2 1 g9 w A hA hlb insK_le (fun W hW => Box_at (hB W hW) (by repeat (first | exact .head _ | refine .tail _ ?_)))).mono (fun e w' hh => by obtain ⟨A', c', g1, g2, g3⟩ := hh; exact ⟨(A', c'), g2, g1, g3⟩)) (fun q hq => ?_)
    refine Jl.jw ?_
    refine Jw.take 6 rfl (by decide +kernel) (by intro c a d v w h; cases d <;> exact h) (fun w => Y.asg rfl rfl) rfl rfl rfl ?_
    refine Jw.done (by decide +kernel) (Ej.go ?_ (fun _ _ h => h))
    repeat (first
        | (apply gateO; first
          | refine Jl.yd (Y.mv rfl rfl) rfl rfl rfl ?_
          | refine Jl.yd (Y.asg rfl rfl) rfl rfl rfl ?_
          | refine Jl.yd (Y.ext rfl rfl rfl) rfl rfl rfl ?_
          | refine Jl.yd (Y.pickT rfl rfl rfl) rfl rfl rfl ?_
          | refine Jl.yd (Y.pickF rfl rfl rfl) rfl rfl rfl ?_
          | refine Jl.off rfl rfl rfl ?_
          | refine Jl.yd (Y.cmpF rfl rfl rfl rfl (by omega)) rfl rfl rfl ?_
          | refine Jl.yd (Y.cmpT rfl rfl rfl rfl (by omega)) rfl rfl rfl ?_
          | refine Jl.yd (Y.neqB rfl rfl rfl Try.underlying4) rfl rfl rfl ?_
          | refine Jl.yd (Y.cmp rfl rfl rfl rfl) rfl rfl rfl ?_
          | refine Jl.yd (Y.not rfl rfl) rfl rfl rfl ?_
          | refine Jl.yd (Y.arithN rfl rfl rfl rfl (by omega)) rfl rfl rfl ?_
          | refine Jl.yd (Y.arith64 rfl rfl rfl rfl) rfl rfl rfl ?_
          | refine Jl.yd (Y.loadA rfl rfl agg26 (by repeat (first | exact .head _ | refine .tail _ ?_)) (by rfl)) rfl rfl rfl ?_
          | refine Jl.yd (Y.loadA rfl rfl agg76 (by repeat (first | exact .head _ | refine .tail _ ?_)) (by rfl)) rfl rfl rfl ?_
          | refine Jl.yd (Y.lenS Try.underlying65 rfl rfl rfl) rfl rfl rfl ?_
          | refine Jl.call1 (v := .bool true) rfl rfl rfl rfl en63 rfl (fun w hW => by with_reducible exact impl_AreHoles.calls kk2 wd ht A0 c0 cs _ _ (insL l (insK l x) x) true w (hW.fact (p := (fun W => Kd.C (Kd.int .i64) W A0 cs.length cs)) (by repeat (first | exact memH | refine memT ?_))) hc (hW.rowC (by repeat (first | exact memH | refine memT ?_))) (hW.rowCap (by repeat (first | exact memH | refine memT ?_))).2 hk2) ?_
          | refine Jl.splitG rfl rfl (fun h => ?_) (fun h => ?_))
        | (apply gateE; first
          | refine Jl.nil (Ej.go ?_ (fun _ _ h => h))
          | (refine Jl.nil (Ej.back (fun _ _ h => h) (by repeat (first | exact .refl | apply DropTo.tail)) ?_); repeat (first | exact trivial | refine ⟨rfl, ?_⟩)))
        | (apply gateC; first
          | refine Cj.ret rfl (Ej.out2 (P := Try.prog) (fn := Try.f51) (R := Rr) (fun _ _ h => h) rfl rfl rfl (fun w' hW => ⟨_, rfl, outH hW (by repeat (first | exact .nil | refine Pick.cons (by repeat (first | exact .z | apply OutAt.s)) ?_)), hW.below⟩))
          | refine Cj.condF rfl rfl (Cj.skip rfl (Ej.go ?_ (fun _ _ h => h)))
          | (refine Cj.condF rfl rfl (Cj.skip rfl (Ej.back (fun _ _ h => h) (by repeat (first | exact .refl | apply DropTo.tail)) ?_)); repeat (first | exact trivial | refine ⟨rfl, ?_⟩))
          | refine Cj.condF rfl rfl ?_
          | refine Cj.condT rfl rfl ?_
          | refine Cj.exit rfl (Ej.go ?_ (fun _ _ h => h))
          | refine Cj.cond rfl rfl (fun h => ?_) (fun h => ?_)
          | refine Cj.skip rfl (Ej.go ?_ (fun _ _ h => h))
          | (refine Cj.skip rfl (Ej.back (fun _ _ h => h) (by repeat (first | exact .refl | apply DropTo.tail)) ?_); repeat (first | exact trivial | refine ⟨rfl, ?_⟩))
          | refine Cj.seq rfl ?_
          | refine Cj.region rfl ?_))
  · skip
    refine Jl.litS (us := [.int .i64 x.f0, .int .i64 x.f1, .int .i64 x.f2, .int .i64 x.f3]) (zs := [.int .i64 0, .int .i64 0, .int .i64 0, .int .i64 0]) rfl rfl rfl rfl rfl el65 zero76 rfl rfl (fill4 _ _ _ _ _ _ _ _) (fun g9 => ?_)
    refine Jl.jw ?_
    refine Jw.step (mkD [] []) 1 rfl (by decide +kernel) rfl rfl ?_
    refine Jl.callR 0 (fun v => v) rfl rfl rfl rfl en119 rfl (fun w hW => by with_reducible exact impl_Hole_119.calls A1 c1 l l w (hW.fact (p := (fun W => Kd.C k76 W A1 l.length l)) (by repeat (first | exact memH | refine memT ?_))) hcl hcn) (fun A2 c2 h2 => ?_)
    refine Jl.jw ?_
    refine Jw.step (mkD [] [0]) 5 rfl (by decide +kernel) rfl rfl ?_
    refine Jl.callX (ι := Option Addr × Nat) (fun q => (insL l (insK l x) x).length ≤ q.2) (fun q => .slice q.1 (insL l (insK l x) x).length q.2) (.row k76 76 0 (.slice A2 l.length c2) l) (fun q => .row k76 76 0 (.slice q.1 (insL l (insK l x) x).length q.2) (insL l (insK l x) x)) rfl rfl rfl rfl en118 rfl (by repeat (first | exact .z | apply OutAt.s)) (fun w A hA hB => (insert_ l x (insK l x) A2 c2 1 g9 w A hA hlb insK_le (fun W hW => Box_at (hB W hW) (by repeat (first | exact .head _ | refine .tail _ ?_)))).mono (fun e w' hh => by obtain ⟨A', c', g1, g2, g3⟩ := hh; exact ⟨(A', c'), g2, g1, g3⟩)) (fun q hq => ?_)
    refine Jl.jw ?_
    refine Jw.take 6 rfl (by decide +kernel) (by intro c a d v w h; cases d <;> exact h) (fun w => Y.asg rfl rfl) rfl rfl rfl ?_
    refine Jw.done (by decide +kernel) (Ej.go ?_ (fun _ _ h => h))
    repeat (first
        | (apply gateO; first
          | refine Jl.yd (Y.mv rfl rfl) rfl rfl rfl ?_
          | refine Jl.yd (Y.asg rfl rfl) rfl rfl rfl ?_
          | refine Jl.yd (Y.ext rfl rfl rfl) rfl rfl rfl ?_
          | refine Jl.yd (Y.pickT rfl rfl rfl) rfl rfl rfl ?_
          | refine Jl.yd (Y.pickF rfl rfl rfl) rfl rfl rfl ?_
          | refine Jl.off rfl rfl rfl ?_
          | refine Jl.yd (Y.cmpF rfl rfl rfl rfl (by omega)) rfl rfl rfl ?_
          | refine Jl.yd (Y.cmpT rfl rfl rfl rfl (by omega)) rfl rfl rfl ?_
          | refine Jl.yd (Y.neqB rfl rfl rfl Try.underlying4) rfl rfl rfl ?_
          | refine Jl.yd (Y.cmp rfl rfl rfl rfl) rfl rfl rfl ?_
          | refine Jl.yd (Y.not rfl rfl) rfl rfl rfl ?_
          | refine Jl.yd (Y.arithN rfl rfl rfl rfl (by omega)) rfl rfl rfl ?_
          | refine Jl.yd (Y.arith64 rfl rfl rfl rfl) rfl rfl rfl ?_
          | refine Jl.yd (Y.loadA rfl rfl agg26 (by repeat (first | exact .head _ | refine .tail _ ?_)) (by rfl)) rfl rfl rfl ?_
          | refine Jl.yd (Y.loadA rfl rfl agg76 (by repeat (first | exact .head _ | refine .tail _ ?_)) (by rfl)) rfl rfl rfl ?_
          | refine Jl.yd (Y.lenS Try.underlying65 rfl rfl rfl) rfl rfl rfl ?_
          | refine Jl.call1 (v := .bool true) rfl rfl rfl rfl en63 rfl (fun w hW => by with_reducible exact impl_AreHoles.calls kk2 wd ht A0 c0 cs _ _ (insL l (insK l x) x) true w (hW.fact (p := (fun W => Kd.C (Kd.int .i64) W A0 cs.length cs)) (by repeat (first | exact memH | refine memT ?_))) hc (hW.rowC (by repeat (first | exact memH | refine memT ?_))) (hW.rowCap (by repeat (first | exact memH | refine memT ?_))).2 hk2) ?_
          | refine Jl.splitG rfl rfl (fun h => ?_) (fun h => ?_))
        | (apply gateE; first
          | refine Jl.nil (Ej.go ?_ (fun _ _ h => h))
          | (refine Jl.nil (Ej.back (fun _ _ h => h) (by repeat (first | exact .refl | apply DropTo.tail)) ?_); repeat (first | exact trivial | refine ⟨rfl, ?_⟩)))
        | (apply gateC; first
          | refine Cj.ret rfl (Ej.out2 (P := Try.prog) (fn := Try.f51) (R := Rr) (fun _ _ h => h) rfl rfl rfl (fun w' hW => ⟨_, rfl, outH hW (by repeat (first | exact .nil | refine Pick.cons (by repeat (first | exact .z | apply OutAt.s)) ?_)), hW.below⟩))
          | refine Cj.condF rfl rfl (Cj.skip rfl (Ej.go ?_ (fun _ _ h => h)))
          | (refine Cj.condF rfl rfl (Cj.skip rfl (Ej.back (fun _ _ h => h) (by repeat (first | exact .refl | apply DropTo.tail)) ?_)); repeat (first | exact trivial | refine ⟨rfl, ?_⟩))
          | refine Cj.condF rfl rfl ?_
          | refine Cj.condT rfl rfl ?_
          | refine Cj.exit rfl (Ej.go ?_ (fun _ _ h => h))
          | refine Cj.cond rfl rfl (fun h => ?_) (fun h => ?_)
          | refine Cj.skip rfl (Ej.go ?_ (fun _ _ h => h))
          | (refine Cj.skip rfl (Ej.back (fun _ _ h => h) (by repeat (first | exact .refl | apply DropTo.tail)) ?_); repeat (first | exact trivial | refine ⟨rfl, ?_⟩))
          | refine Cj.seq rfl ?_
          | refine Cj.region rfl ?_))
end AH
end Go.Proofs.Ytkglpfdoefdhdaa.WK

namespace Go.Proofs.Ytkglpfdoefdhdaa.WK
open Go Go.RowKit Go.Proofs.Ytkglpfdoefdhdaa.Q Go.Proofs.Ytkglpfdoefdhdaa.M Go.Proofs.YtkglpfdoefdhdaaW.PrintWords Go.Proofs.YtkglpfdoefdhdaaW.SL
open Go.Proofs.YtkglpfdoefdhdaaW.Pl (nth nth_get)
set_option linter.unusedSimpArgs false
set_option linter.unusedVariables false
set_option maxRecDepth 100000
namespace MO
theorem en110 : Ent Try.prog 110 := ⟨enters_of Try.func110 (by kernel_rfl) rfl⟩
end MO
end Go.Proofs.Ytkglpfdoefdhdaa.WK

namespace Go.Proofs.Ytkglpfdoefdhdaa.WK
open Go Go.RowKit Go.Proofs.Ytkglpfdoefdhdaa.Q Go.Proofs.Ytkglpfdoefdhdaa.M Go.Proofs.YtkglpfdoefdhdaaW.PrintWords Go.Proofs.YtkglpfdoefdhdaaW.SL
open Go.Proofs.YtkglpfdoefdhdaaW.Pl (nth nth_get)
set_option linter.unusedSimpArgs false
set_option linter.unusedVariables false
set_option maxRecDepth 100000
namespace AH
open MO (mixed agg26 agg76 el24 el65 sc3 goodHole)
open FM (outH zero76 fill4 ap65)
open IH (enc flat76 insL insL_len insert_ bsearch)
open MO (en110)
theorem fld76_0 : FldT Try.prog 76 0 0 := ⟨by kernel_rfl⟩
theorem fld76_1 : FldT Try.prog 76 1 1 := ⟨by kernel_rfl⟩
set_option maxHeartbeats 4000000 in
/-- The reference's AddHole at holes that are none. -/
theorem asNo {wd ht : Int} {cs : List Int} {l : List S76} (x : S76) (A0 : Option Addr) (c0 : Nat) (A1 : Option Addr) (c1 : Nat) (w : World) (hrC : Kd.C (Kd.int .i64) w A0 cs.length cs) (hc : cs.length ≤ c0) (hrH : Kd.C k76 w A1 l.length l) (hcl : l.length ≤ c1) (hlb : l.length ≤ 1048576) (hcb : cs.length ≤ 1048576) (hg : goodH wd ht cs l = false) : Calls Try.prog 49 #[.agg #[.int .i64 wd, .int .i64 ht, .slice A0 cs.length c0], .slice A1 l.length c1, .agg #[.int .i64 x.f0, .int .i64 x.f1, .int .i64 x.f2, .int .i64 x.f3]] w fun e w' => ∃ v, e = .returned (.tuple #[v, .bool false]) ∧ k76.R 76 w' w.heap.size (fun _ => True) v [] ∧ Below w.heap.size w w' := by
  obtain ⟨kk, hk⟩ := (sHoles wd ht cs l hcb hlb).rounds
  rw [hg] at hk
  let Rr : Ending → World → Prop := fun e w' => ∃ v, e = .returned (.tuple #[v, .bool false]) ∧ k76.R 76 w' w.heap.size (fun _ => True) v [] ∧ Below w.heap.size w w'
  refine enterW (args := [.agg #[.int .i64 wd, .int .i64 ht, .slice A0 cs.length c0], .slice A1 l.length c1, .agg #[.int .i64 x.f0, .int .i64 x.f1, .int .i64 x.f2, .int .i64 x.f3]]) [(fun W => Kd.C (Kd.int .i64) W A0 cs.length cs), (fun W => Kd.C k76 W A1 l.length l)] (fun p hp W hb => by
    rcases List.mem_cons.1 hp with rfl | hp
    · exact Kd.C_below hrC hb
    · rw [List.mem_singleton.1 hp]; exact Kd.C_below hrH hb) Try.func49 rfl rfl ?_
  show Cj Try.prog _ _ _ (bodyPost Try.prog Try.f49 Rr) _ _ _
  repeat (first
    | (apply gateO; first
      | refine Jl.yd (Y.mv rfl rfl) rfl rfl rfl ?_
      | refine Jl.yd (Y.asg rfl rfl) rfl rfl rfl ?_
      | refine Jl.yd (Y.ext rfl rfl rfl) rfl rfl rfl ?_
      | refine Jl.yd (Y.pickT rfl rfl rfl) rfl rfl rfl ?_
      | refine Jl.yd (Y.pickF rfl rfl rfl) rfl rfl rfl ?_
      | refine Jl.off rfl rfl rfl ?_
      | refine Jl.yd (Y.cmpF rfl rfl rfl rfl (by omega)) rfl rfl rfl ?_
      | refine Jl.yd (Y.cmpT rfl rfl rfl rfl (by omega)) rfl rfl rfl ?_
      | refine Jl.yd (Y.neqB rfl rfl rfl Try.underlying4) rfl rfl rfl ?_
      | refine Jl.yd (Y.cmp rfl rfl rfl rfl) rfl rfl rfl ?_
      | refine Jl.yd (Y.not rfl rfl) rfl rfl rfl ?_
      | refine Jl.yd (Y.arithN rfl rfl rfl rfl (by omega)) rfl rfl rfl ?_
      | refine Jl.yd (Y.arith64 rfl rfl rfl rfl) rfl rfl rfl ?_
      | refine Jl.yd (Y.loadA rfl rfl agg26 (by repeat (first | exact .head _ | refine .tail _ ?_)) (by rfl)) rfl rfl rfl ?_
      | refine Jl.yd (Y.lenS Try.underlying65 rfl rfl rfl) rfl rfl rfl ?_
      | refine Jl.box (zs := [.int .i64 wd, .int .i64 ht, .slice A0 cs.length c0]) rfl rfl rfl rfl rfl (by rfl) (fun gc => ?_)
      | refine Jl.box (zs := [.int .i64 x.f0, .int .i64 x.f1, .int .i64 x.f2, .int .i64 x.f3]) rfl rfl rfl rfl rfl (by rfl) (fun gx => ?_)
      | refine Jl.call1 (v := .bool false) rfl rfl rfl rfl en110 rfl (fun w hW => by with_reducible exact spec_l23Good.calls kk wd ht A0 c0 cs A1 c1 l false w (hW.fact (p := (fun W => Kd.C (Kd.int .i64) W A0 cs.length cs)) (by repeat (first | exact memH | refine memT ?_))) hc (hW.fact (p := (fun W => Kd.C k76 W A1 l.length l)) (by repeat (first | exact memH | refine memT ?_))) hcl hk) ?_
      | refine Jl.lit0 k76 rfl rfl rfl rfl el65 (fun gr => ?_)
      | refine Jl.splitG rfl rfl (fun h => ?_) (fun h => ?_))
    | (apply gateE; first
      | refine Jl.nil (Ej.go ?_ (fun _ _ h => h))
      | (refine Jl.nil (Ej.back (fun _ _ h => h) (by repeat (first | exact .refl | apply DropTo.tail)) ?_); repeat (first | exact trivial | refine ⟨rfl, ?_⟩)))
    | (apply gateC; first
      | refine Cj.ret rfl (Ej.out2 (P := Try.prog) (fn := Try.f49) (R := Rr) (fun _ _ h => h) rfl rfl rfl (fun w' hW => ⟨_, rfl, outH hW (by repeat (first | exact .nil | refine Pick.cons (by repeat (first | exact .z | apply OutAt.s)) ?_)), hW.below⟩))
      | refine Cj.condF rfl rfl (Cj.skip rfl (Ej.go ?_ (fun _ _ h => h)))
      | (refine Cj.condF rfl rfl (Cj.skip rfl (Ej.back (fun _ _ h => h) (by repeat (first | exact .refl | apply DropTo.tail)) ?_)); repeat (first | exact trivial | refine ⟨rfl, ?_⟩))
      | refine Cj.condF rfl rfl ?_
      | refine Cj.condT rfl rfl ?_
      | refine Cj.exit rfl (Ej.go ?_ (fun _ _ h => h))
      | refine Cj.cond rfl rfl (fun h => ?_) (fun h => ?_)
      | refine Cj.skip rfl (Ej.go ?_ (fun _ _ h => h))
      | (refine Cj.skip rfl (Ej.back (fun _ _ h => h) (by repeat (first | exact .refl | apply DropTo.tail)) ?_); repeat (first | exact trivial | refine ⟨rfl, ?_⟩))
      | refine Cj.seq rfl ?_
      | refine Cj.region rfl ?_))
set_option maxHeartbeats 16000000 in
/-- The reference's AddHole at a hole that does not fit. -/
theorem asBad {wd ht : Int} {cs : List Int} {l : List S76} (x : S76) (A0 : Option Addr) (c0 : Nat) (A1 : Option Addr) (c1 : Nat) (w : World) (hrC : Kd.C (Kd.int .i64) w A0 cs.length cs) (hc : cs.length ≤ c0) (hrH : Kd.C k76 w A1 l.length l) (hcl : l.length ≤ c1) (hlb : l.length ≤ 1048576) (hcb : cs.length ≤ 1048576) (hg : goodH wd ht cs l = true) (hg2 : goodH wd ht cs (insL l (insK l x) x) = false) : Calls Try.prog 49 #[.agg #[.int .i64 wd, .int .i64 ht, .slice A0 cs.length c0], .slice A1 l.length c1, .agg #[.int .i64 x.f0, .int .i64 x.f1, .int .i64 x.f2, .int .i64 x.f3]] w fun e w' => ∃ v, e = .returned (.tuple #[v, .bool false]) ∧ k76.R 76 w' w.heap.size (fun _ => True) v [] ∧ Below w.heap.size w w' := by
  obtain ⟨kk, hk⟩ := (sHoles wd ht cs l hcb hlb).rounds
  rw [hg] at hk
  obtain ⟨_, hl8, _⟩ := goodHole hg
  have hKl : insK l x ≤ l.length := insK_le
  have hil : (insL l (insK l x) x).length = l.length + 1 := insL_len x insK_le
  have hie : ((([] ++ l.take (insK l x)) ++ [x]) ++ l.drop (insK l x)) = insL l (insK l x) x := rfl
  obtain ⟨kk2, hk2⟩ := (sHoles wd ht cs (insL l (insK l x) x) hcb (by omega)).rounds
  rw [hg2, ← hie] at hk2
  rw [← hie] at hil
  let Rr : Ending → World → Prop := fun e w' => ∃ v, e = .returned (.tuple #[v, .bool false]) ∧ k76.R 76 w' w.heap.size (fun _ => True) v [] ∧ Below w.heap.size w w'
  refine enterW (args := [.agg #[.int .i64 wd, .int .i64 ht, .slice A0 cs.length c0], .slice A1 l.length c1, .agg #[.int .i64 x.f0, .int .i64 x.f1, .int .i64 x.f2, .int .i64 x.f3]]) [(fun W => Kd.C (Kd.int .i64) W A0 cs.length cs), (fun W => Kd.C k76 W A1 l.length l)] (fun p hp W hb => by
    rcases List.mem_cons.1 hp with rfl | hp
    · exact Kd.C_below hrC hb
    · rw [List.mem_singleton.1 hp]; exact Kd.C_below hrH hb) Try.func49 rfl rfl ?_
  show Cj Try.prog _ _ _ (bodyPost Try.prog Try.f49 Rr) _ _ _
  repeat (first
    | (apply gateO; first
      | refine Jl.yd (Y.mv rfl rfl) rfl rfl rfl ?_
      | refine Jl.yd (Y.asg rfl rfl) rfl rfl rfl ?_
      | refine Jl.yd (Y.ext rfl rfl rfl) rfl rfl rfl ?_
      | refine Jl.yd (Y.pickT rfl rfl rfl) rfl rfl rfl ?_
      | refine Jl.yd (Y.pickF rfl rfl rfl) rfl rfl rfl ?_
      | refine Jl.off rfl rfl rfl ?_
      | refine Jl.yd (Y.cmpF rfl rfl rfl rfl (by omega)) rfl rfl rfl ?_
      | refine Jl.yd (Y.cmpT rfl rfl rfl rfl (by omega)) rfl rfl rfl ?_
      | refine Jl.yd (Y.neqB rfl rfl rfl Try.underlying4) rfl rfl rfl ?_
      | refine Jl.yd (Y.cmp rfl rfl rfl rfl) rfl rfl rfl ?_
      | refine Jl.yd (Y.not rfl rfl) rfl rfl rfl ?_
      | refine Jl.yd (Y.arithN rfl rfl rfl rfl (by omega)) rfl rfl rfl ?_
      | refine Jl.yd (Y.arith64 rfl rfl rfl rfl) rfl rfl rfl ?_
      | refine Jl.yd (Y.loadA rfl rfl agg26 (by repeat (first | exact .head _ | refine .tail _ ?_)) (by rfl)) rfl rfl rfl ?_
      | refine Jl.yd (Y.lenS Try.underlying65 rfl rfl rfl) rfl rfl rfl ?_
      | refine Jl.box (zs := [.int .i64 wd, .int .i64 ht, .slice A0 cs.length c0]) rfl rfl rfl rfl rfl (by rfl) (fun gc => ?_)
      | refine Jl.box (zs := [.int .i64 x.f0, .int .i64 x.f1, .int .i64 x.f2, .int .i64 x.f3]) rfl rfl rfl rfl rfl (by rfl) (fun gx => ?_)
      | refine Jl.call1 (v := .bool true) rfl rfl rfl rfl en110 rfl (fun w hW => by with_reducible exact spec_l23Good.calls kk wd ht A0 c0 cs A1 c1 l true w (hW.fact (p := (fun W => Kd.C (Kd.int .i64) W A0 cs.length cs)) (by repeat (first | exact memH | refine memT ?_))) hc (hW.fact (p := (fun W => Kd.C k76 W A1 l.length l)) (by repeat (first | exact memH | refine memT ?_))) hcl hk) ?_
      | refine Jl.splitG rfl rfl (fun h => ?_) (fun h => ?_))
    | (apply gateE; first
      | refine Jl.nil (Ej.go ?_ (fun _ _ h => h))
      | (refine Jl.nil (Ej.back (fun _ _ h => h) (by repeat (first | exact .refl | apply DropTo.tail)) ?_); repeat (first | exact trivial | refine ⟨rfl, ?_⟩)))
    | (apply gateC; first
      | refine Cj.condF rfl rfl (Cj.skip rfl (Ej.go ?_ (fun _ _ h => h)))
      | (refine Cj.condF rfl rfl (Cj.skip rfl (Ej.back (fun _ _ h => h) (by repeat (first | exact .refl | apply DropTo.tail)) ?_)); repeat (first | exact trivial | refine ⟨rfl, ?_⟩))
      | refine Cj.condF rfl rfl ?_
      | refine Cj.condT rfl rfl ?_
      | refine Cj.exit rfl (Ej.go ?_ (fun _ _ h => h))
      | refine Cj.cond rfl rfl (fun h => ?_) (fun h => ?_)
      | refine Cj.skip rfl (Ej.go ?_ (fun _ _ h => h))
      | (refine Cj.skip rfl (Ej.back (fun _ _ h => h) (by repeat (first | exact .refl | apply DropTo.tail)) ?_); repeat (first | exact trivial | refine ⟨rfl, ?_⟩))
      | refine Cj.seq rfl ?_
      | refine Cj.region rfl ?_))
  refine Cj.cutThen (ι := Unit) (fun _ => True) (fun _ => [(1, .slice A1 l.length c1), (3, .pointer (some ⟨gc, 0, none⟩)), (5, .pointer (some ⟨gx, 0, none⟩)), (8, .int .i64 (((insK l x : Nat) : Int) : Int))]) (fun _ => [.box gx 76 [.int .i64 x.f0, .int .i64 x.f1, .int .i64 x.f2, .int .i64 x.f3], .box gc 26 [.int .i64 wd, .int .i64 ht, .slice A0 cs.length c0]]) (fun _ => [(fun W => Kd.C (Kd.int .i64) W A0 cs.length cs), (fun W => Kd.C k76 W A1 l.length l)]) ?_ (fun _ _ => Ej.go ?_ (fun _ _ h => h))
  · refine Cj.block rfl ?_
    refine Cj.loopP (ι := Nat) (fun k => k ≤ insK l x) (fun k => [(1, .slice A1 l.length c1), (3, .pointer (some ⟨gc, 0, none⟩)), (5, .pointer (some ⟨gx, 0, none⟩)), (8, .int .i64 (((k : Nat) : Int) : Int))]) (fun _ => [.box gx 76 [.int .i64 x.f0, .int .i64 x.f1, .int .i64 x.f2, .int .i64 x.f3], .box gc 26 [.int .i64 wd, .int .i64 ht, .slice A0 cs.length c0]]) (fun _ => [(fun W => Kd.C (Kd.int .i64) W A0 cs.length cs), (fun W => Kd.C k76 W A1 l.length l)]) (fun k => insK l x - k) rfl 0 (Nat.zero_le _) ⟨rfl, rfl, rfl, rfl, trivial⟩ (by repeat (first | exact .nil | refine Pick.cons (by repeat (first | exact .z | apply OutAt.s)) ?_)) (fun p hp => hp) (fun k hk => ?_)
    by_cases hlt : k < l.length
    · obtain ⟨ad, rfl, _⟩ := hrH.2.2 (by omega)
      obtain ⟨y, hy⟩ : ∃ y, nth l k z76 = y := ⟨_, rfl⟩
      have huy : ([.int .i64 (l.getD ((k : Nat) : Int).toNat z76).f0, .int .i64 (l.getD ((k : Nat) : Int).toNat z76).f1, .int .i64 (l.getD ((k : Nat) : Int).toNat z76).f2, .int .i64 (l.getD ((k : Nat) : Int).toNat z76).f3] : List Value) = [.int .i64 y.f0, .int .i64 y.f1, .int .i64 y.f2, .int .i64 y.f3] := by
        have hx2 : l.getD k z76 = y := hy
        rw [Int.toNat_natCast, hx2]
      have hbt : befH y x = true → k < insK l x := fun h => by
        rcases Nat.lt_or_ge k (insK l x) with h1 | h1
        · exact h1
        · obtain rfl : k = insK l x := by omega
          have := cntB_at (bef := befH) (z := z76) (l := l) (x := x) hlt
          rw [show nth l (cntB befH l x) z76 = y from hy, h] at this
          cases this
      have hbf : befH y x = false → insK l x = k := fun h => by
        rcases Nat.lt_or_ge k (insK l x) with h1 | h1
        · have := cntB_lt (bef := befH) (z := z76) (l := l) (x := x) h1
          rw [hy, h] at this
          cases this
        · omega
      rcases (by omega : (y.f0 < x.f0) ∨ (y.f0 = x.f0 ∧ y.f1 < x.f1) ∨ (y.f0 = x.f0 ∧ ¬ y.f1 < x.f1) ∨ (x.f0 < y.f0)) with h4 | h4 | h4 | h4
      · have hlt2 := hbt (by unfold befH; rw [decide_eq_true_iff]; omega)
        repeat (first
            | (apply gateO; first
              | refine Jl.yd (Y.mv rfl rfl) rfl rfl rfl ?_
              | refine Jl.yd (Y.asg rfl rfl) rfl rfl rfl ?_
              | refine Jl.yd (Y.ext rfl rfl rfl) rfl rfl rfl ?_
              | refine Jl.yd (Y.pickT rfl rfl rfl) rfl rfl rfl ?_
              | refine Jl.yd (Y.pickF rfl rfl rfl) rfl rfl rfl ?_
              | refine Jl.off rfl rfl rfl ?_
              | refine Jl.yd (Y.cmpF rfl rfl rfl rfl (by omega)) rfl rfl rfl ?_
              | refine Jl.yd (Y.cmpT rfl rfl rfl rfl (by omega)) rfl rfl rfl ?_
              | refine Jl.yd (Y.neqB rfl rfl rfl Try.underlying4) rfl rfl rfl ?_
              | refine Jl.yd (Y.cmp rfl rfl rfl rfl) rfl rfl rfl ?_
              | refine Jl.yd (Y.not rfl rfl) rfl rfl rfl ?_
              | refine Jl.yd (Y.arithN rfl rfl rfl rfl (by omega)) rfl rfl rfl ?_
              | refine Jl.yd (Y.arith64 rfl rfl rfl rfl) rfl rfl rfl ?_
              | refine Jl.yd (Y.lenS Try.underlying65 rfl rfl rfl) rfl rfl rfl ?_
              | refine Jl.yd (Y.idx rfl rfl rfl el65 (by omega) (by omega)) rfl rfl rfl ?_
              | refine Jl.yd (Y.fld0 rfl rfl fld76_0) rfl rfl rfl ?_
              | refine Jl.yd (Y.fld0 rfl rfl fld76_1) rfl rfl rfl ?_
              | refine Jl.yd (Y.fld rfl rfl fld76_0) rfl rfl rfl ?_
              | refine Jl.yd (Y.fld rfl rfl fld76_1) rfl rfl rfl ?_
              | refine Jl.yd (Y.load1 rfl rfl sc3 (by repeat (first | exact .head _ | refine .tail _ ?_)) (by rfl)) rfl rfl rfl ?_
              | refine Jl.yd (Y.loadK1 z76 [.int .i64 y.f0, .int .i64 y.f1, .int .i64 y.f2, .int .i64 y.f3] rfl rfl sc3 (by repeat (first | exact memH | refine memT ?_)) ((k : Nat) : Int) 0 (by omega) (by omega) (by rfl) (fun w cs h => (k76_open h).trans huy) rfl) rfl rfl rfl ?_
              | refine Jl.yd (Y.loadK1 z76 [.int .i64 y.f0, .int .i64 y.f1, .int .i64 y.f2, .int .i64 y.f3] rfl rfl sc3 (by repeat (first | exact memH | refine memT ?_)) ((k : Nat) : Int) 1 (by omega) (by omega) (by rfl) (fun w cs h => (k76_open h).trans huy) rfl) rfl rfl rfl ?_
              | refine Jl.splitG rfl rfl (fun h => ?_) (fun h => ?_))
            | (apply gateE; first
              | refine Jl.nil (Ej.go ?_ (fun _ _ h => h))
              | (refine Jl.nil (Ej.back (fun _ _ h => h) (by repeat (first | exact .refl | apply DropTo.tail)) ?_); repeat (first | exact trivial | refine ⟨rfl, ?_⟩)))
            | (apply gateC; first
              | refine Cj.block rfl ?_
              | refine Cj.regionD rfl (mkD [0, 1, 2, 3, 4, 5, 6, 7, 8, 9, 10, 11, 12, 13, 14, 15, 16, 17, 18, 19, 20, 21, 22, 23, 24, 25, 26, 27, 28, 29, 30, 31, 32, 33] []) [] [0, 1, 2, 3, 4, 5, 6, 7, 8, 9, 10, 11, 12, 13, 14, 15, 16, 17, 18, 19, 20, 21, 22, 23, 24, 25, 26, 27, 28, 29, 30, 31, 32, 33] mixed (by decide +kernel) ?_
              | refine Cj.condF rfl rfl (Cj.skip rfl (Ej.go ?_ (fun _ _ h => h)))
              | (refine Cj.condF rfl rfl (Cj.skip rfl (Ej.back (fun _ _ h => h) (by repeat (first | exact .refl | apply DropTo.tail)) ?_)); repeat (first | exact trivial | refine ⟨rfl, ?_⟩))
              | refine Cj.condF rfl rfl ?_
              | refine Cj.condT rfl rfl ?_
              | refine Cj.exit rfl (Ej.go ?_ (fun _ _ h => h))
              | refine Cj.cond rfl rfl (fun h => ?_) (fun h => ?_)
              | refine Cj.skip rfl (Ej.go ?_ (fun _ _ h => h))
              | (refine Cj.skip rfl (Ej.back (fun _ _ h => h) (by repeat (first | exact .refl | apply DropTo.tail)) ?_); repeat (first | exact trivial | refine ⟨rfl, ?_⟩))
              | refine Cj.seq rfl ?_
              | refine Cj.region rfl ?_))
        refine Jl.nil (Ej.cutP (ι := Nat) _ _ _ _ (fun _ _ h => h) (k + 1) ⟨by (try dsimp only); omega, by (try dsimp only); omega⟩ ⟨rfl, rfl, rfl, rfl, trivial⟩ (by repeat (first | exact .nil | refine Pick.cons (by repeat (first | exact .z | apply OutAt.s)) ?_)) (fun p hp => hp))
      · have hlt2 := hbt (by unfold befH; rw [decide_eq_true_iff]; omega)
        repeat (first
            | (apply gateO; first
              | refine Jl.yd (Y.mv rfl rfl) rfl rfl rfl ?_
              | refine Jl.yd (Y.asg rfl rfl) rfl rfl rfl ?_
              | refine Jl.yd (Y.ext rfl rfl rfl) rfl rfl rfl ?_
              | refine Jl.yd (Y.pickT rfl rfl rfl) rfl rfl rfl ?_
              | refine Jl.yd (Y.pickF rfl rfl rfl) rfl rfl rfl ?_
              | refine Jl.off rfl rfl rfl ?_
              | refine Jl.yd (Y.cmpF rfl rfl rfl rfl (by omega)) rfl rfl rfl ?_
              | refine Jl.yd (Y.cmpT rfl rfl rfl rfl (by omega)) rfl rfl rfl ?_
              | refine Jl.yd (Y.neqB rfl rfl rfl Try.underlying4) rfl rfl rfl ?_
              | refine Jl.yd (Y.cmp rfl rfl rfl rfl) rfl rfl rfl ?_
              | refine Jl.yd (Y.not rfl rfl) rfl rfl rfl ?_
              | refine Jl.yd (Y.arithN rfl rfl rfl rfl (by omega)) rfl rfl rfl ?_
              | refine Jl.yd (Y.arith64 rfl rfl rfl rfl) rfl rfl rfl ?_
              | refine Jl.yd (Y.lenS Try.underlying65 rfl rfl rfl) rfl rfl rfl ?_
              | refine Jl.yd (Y.idx rfl rfl rfl el65 (by omega) (by omega)) rfl rfl rfl ?_
              | refine Jl.yd (Y.fld0 rfl rfl fld76_0) rfl rfl rfl ?_
              | refine Jl.yd (Y.fld0 rfl rfl fld76_1) rfl rfl rfl ?_
              | refine Jl.yd (Y.fld rfl rfl fld76_0) rfl rfl rfl ?_
              | refine Jl.yd (Y.fld rfl rfl fld76_1) rfl rfl rfl ?_
              | refine Jl.yd (Y.load1 rfl rfl sc3 (by repeat (first | exact .head _ | refine .tail _ ?_)) (by rfl)) rfl rfl rfl ?_
              | refine Jl.yd (Y.loadK1 z76 [.int .i64 y.f0, .int .i64 y.f1, .int .i64 y.f2, .int .i64 y.f3] rfl rfl sc3 (by repeat (first | exact memH | refine memT ?_)) ((k : Nat) : Int) 0 (by omega) (by omega) (by rfl) (fun w cs h => (k76_open h).trans huy) rfl) rfl rfl rfl ?_
              | refine Jl.yd (Y.loadK1 z76 [.int .i64 y.f0, .int .i64 y.f1, .int .i64 y.f2, .int .i64 y.f3] rfl rfl sc3 (by repeat (first | exact memH | refine memT ?_)) ((k : Nat) : Int) 1 (by omega) (by omega) (by rfl) (fun w cs h => (k76_open h).trans huy) rfl) rfl rfl rfl ?_
              | refine Jl.splitG rfl rfl (fun h => ?_) (fun h => ?_))
            | (apply gateE; first
              | refine Jl.nil (Ej.go ?_ (fun _ _ h => h))
              | (refine Jl.nil (Ej.back (fun _ _ h => h) (by repeat (first | exact .refl | apply DropTo.tail)) ?_); repeat (first | exact trivial | refine ⟨rfl, ?_⟩)))
            | (apply gateC; first
              | refine Cj.block rfl ?_
              | refine Cj.regionD rfl (mkD [0, 1, 2, 3, 4, 5, 6, 7, 8, 9, 10, 11, 12, 13, 14, 15, 16, 17, 18, 19, 20, 21, 22, 23, 24, 25, 26, 27, 28, 29, 30, 31, 32, 33] []) [] [0, 1, 2, 3, 4, 5, 6, 7, 8, 9, 10, 11, 12, 13, 14, 15, 16, 17, 18, 19, 20, 21, 22, 23, 24, 25, 26, 27, 28, 29, 30, 31, 32, 33] mixed (by decide +kernel) ?_
              | refine Cj.condF rfl rfl (Cj.skip rfl (Ej.go ?_ (fun _ _ h => h)))
              | (refine Cj.condF rfl rfl (Cj.skip rfl (Ej.back (fun _ _ h => h) (by repeat (first | exact .refl | apply DropTo.tail)) ?_)); repeat (first | exact trivial | refine ⟨rfl, ?_⟩))
              | refine Cj.condF rfl rfl ?_
              | refine Cj.condT rfl rfl ?_
              | refine Cj.exit rfl (Ej.go ?_ (fun _ _ h => h))
              | refine Cj.cond rfl rfl (fun h => ?_) (fun h => ?_)
              | refine Cj.skip rfl (Ej.go ?_ (fun _ _ h => h))
              | (refine Cj.skip rfl (Ej.back (fun _ _ h => h) (by repeat (first | exact .refl | apply DropTo.tail)) ?_); repeat (first | exact trivial | refine ⟨rfl, ?_⟩))
              | refine Cj.seq rfl ?_
              | refine Cj.region rfl ?_))
        refine Jl.nil (Ej.cutP (ι := Nat) _ _ _ _ (fun _ _ h => h) (k + 1) ⟨by (try dsimp only); omega, by (try dsimp only); omega⟩ ⟨rfl, rfl, rfl, rfl, trivial⟩ (by repeat (first | exact .nil | refine Pick.cons (by repeat (first | exact .z | apply OutAt.s)) ?_)) (fun p hp => hp))
      · have heq := hbf (by unfold befH; rw [decide_eq_false_iff_not]; omega)
        rw [heq]
        repeat (first
            | (apply gateO; first
              | refine Jl.yd (Y.mv rfl rfl) rfl rfl rfl ?_
              | refine Jl.yd (Y.asg rfl rfl) rfl rfl rfl ?_
              | refine Jl.yd (Y.ext rfl rfl rfl) rfl rfl rfl ?_
              | refine Jl.yd (Y.pickT rfl rfl rfl) rfl rfl rfl ?_
              | refine Jl.yd (Y.pickF rfl rfl rfl) rfl rfl rfl ?_
              | refine Jl.off rfl rfl rfl ?_
              | refine Jl.yd (Y.cmpF rfl rfl rfl rfl (by omega)) rfl rfl rfl ?_
              | refine Jl.yd (Y.cmpT rfl rfl rfl rfl (by omega)) rfl rfl rfl ?_
              | refine Jl.yd (Y.neqB rfl rfl rfl Try.underlying4) rfl rfl rfl ?_
              | refine Jl.yd (Y.cmp rfl rfl rfl rfl) rfl rfl rfl ?_
              | refine Jl.yd (Y.not rfl rfl) rfl rfl rfl ?_
              | refine Jl.yd (Y.arithN rfl rfl rfl rfl (by omega)) rfl rfl rfl ?_
              | refine Jl.yd (Y.arith64 rfl rfl rfl rfl) rfl rfl rfl ?_
              | refine Jl.yd (Y.lenS Try.underlying65 rfl rfl rfl) rfl rfl rfl ?_
              | refine Jl.yd (Y.idx rfl rfl rfl el65 (by omega) (by omega)) rfl rfl rfl ?_
              | refine Jl.yd (Y.fld0 rfl rfl fld76_0) rfl rfl rfl ?_
              | refine Jl.yd (Y.fld0 rfl rfl fld76_1) rfl rfl rfl ?_
              | refine Jl.yd (Y.fld rfl rfl fld76_0) rfl rfl rfl ?_
              | refine Jl.yd (Y.fld rfl rfl fld76_1) rfl rfl rfl ?_
              | refine Jl.yd (Y.load1 rfl rfl sc3 (by repeat (first | exact .head _ | refine .tail _ ?_)) (by rfl)) rfl rfl rfl ?_
              | refine Jl.yd (Y.loadK1 z76 [.int .i64 y.f0, .int .i64 y.f1, .int .i64 y.f2, .int .i64 y.f3] rfl rfl sc3 (by repeat (first | exact memH | refine memT ?_)) ((k : Nat) : Int) 0 (by omega) (by omega) (by rfl) (fun w cs h => (k76_open h).trans huy) rfl) rfl rfl rfl ?_
              | refine Jl.yd (Y.loadK1 z76 [.int .i64 y.f0, .int .i64 y.f1, .int .i64 y.f2, .int .i64 y.f3] rfl rfl sc3 (by repeat (first | exact memH | refine memT ?_)) ((k : Nat) : Int) 1 (by omega) (by omega) (by rfl) (fun w cs h => (k76_open h).trans huy) rfl) rfl rfl rfl ?_
              | refine Jl.splitG rfl rfl (fun h => ?_) (fun h => ?_))
            | (apply gateE; first
              | refine Jl.nil (Ej.go ?_ (fun _ _ h => h))
              | (refine Jl.nil (Ej.back (fun _ _ h => h) (by repeat (first | exact .refl | apply DropTo.tail)) ?_); repeat (first | exact trivial | refine ⟨rfl, ?_⟩)))
            | (apply gateC; first
              | refine Cj.block rfl ?_
              | refine Cj.regionD rfl (mkD [0, 1, 2, 3, 4, 5, 6, 7, 8, 9, 10, 11, 12, 13, 14, 15, 16, 17, 18, 19, 20, 21, 22, 23, 24, 25, 26, 27, 28, 29, 30, 31, 32, 33] []) [] [0, 1, 2, 3, 4, 5, 6, 7, 8, 9, 10, 11, 12, 13, 14, 15, 16, 17, 18, 19, 20, 21, 22, 23, 24, 25, 26, 27, 28, 29, 30, 31, 32, 33] mixed (by decide +kernel) ?_
              | refine Cj.condF rfl rfl (Cj.skip rfl (Ej.go ?_ (fun _ _ h => h)))
              | (refine Cj.condF rfl rfl (Cj.skip rfl (Ej.back (fun _ _ h => h) (by repeat (first | exact .refl | apply DropTo.tail)) ?_)); repeat (first | exact trivial | refine ⟨rfl, ?_⟩))
              | refine Cj.condF rfl rfl ?_
              | refine Cj.condT rfl rfl ?_
              | refine Cj.exit rfl (Ej.go ?_ (fun _ _ h => h))
              | refine Cj.cond rfl rfl (fun h => ?_) (fun h => ?_)
              | refine Cj.skip rfl (Ej.go ?_ (fun _ _ h => h))
              | (refine Cj.skip rfl (Ej.back (fun _ _ h => h) (by repeat (first | exact .refl | apply DropTo.tail)) ?_); repeat (first | exact trivial | refine ⟨rfl, ?_⟩))
              | refine Cj.seq rfl ?_
              | refine Cj.region rfl ?_))
        refine Cj.exit rfl (Ej.cutP (ι := Unit) _ _ _ _ (fun _ _ h => h) () trivial ⟨rfl, rfl, rfl, rfl, trivial⟩ (by repeat (first | exact .nil | refine Pick.cons (by repeat (first | exact .z | apply OutAt.s)) ?_)) (fun p hp => by simp only [List.mem_cons, List.not_mem_nil, or_false] at hp ⊢; rcases hp with rfl | rfl <;> simp))
      · have heq := hbf (by unfold befH; rw [decide_eq_false_iff_not]; omega)
        rw [heq]
        repeat (first
            | (apply gateO; first
              | refine Jl.yd (Y.mv rfl rfl) rfl rfl rfl ?_
              | refine Jl.yd (Y.asg rfl rfl) rfl rfl rfl ?_
              | refine Jl.yd (Y.ext rfl rfl rfl) rfl rfl rfl ?_
              | refine Jl.yd (Y.pickT rfl rfl rfl) rfl rfl rfl ?_
              | refine Jl.yd (Y.pickF rfl rfl rfl) rfl rfl rfl ?_
              | refine Jl.off rfl rfl rfl ?_
              | refine Jl.yd (Y.cmpF rfl rfl rfl rfl (by omega)) rfl rfl rfl ?_
              | refine Jl.yd (Y.cmpT rfl rfl rfl rfl (by omega)) rfl rfl rfl ?_
              | refine Jl.yd (Y.neqB rfl rfl rfl Try.underlying4) rfl rfl rfl ?_
              | refine Jl.yd (Y.cmp rfl rfl rfl rfl) rfl rfl rfl ?_
              | refine Jl.yd (Y.not rfl rfl) rfl rfl rfl ?_
              | refine Jl.yd (Y.arithN rfl rfl rfl rfl (by omega)) rfl rfl rfl ?_
              | refine Jl.yd (Y.arith64 rfl rfl rfl rfl) rfl rfl rfl ?_
              | refine Jl.yd (Y.lenS Try.underlying65 rfl rfl rfl) rfl rfl rfl ?_
              | refine Jl.yd (Y.idx rfl rfl rfl el65 (by omega) (by omega)) rfl rfl rfl ?_
              | refine Jl.yd (Y.fld0 rfl rfl fld76_0) rfl rfl rfl ?_
              | refine Jl.yd (Y.fld0 rfl rfl fld76_1) rfl rfl rfl ?_
              | refine Jl.yd (Y.fld rfl rfl fld76_0) rfl rfl rfl ?_
              | refine Jl.yd (Y.fld rfl rfl fld76_1) rfl rfl rfl ?_
              | refine Jl.yd (Y.load1 rfl rfl sc3 (by repeat (first | exact .head _ | refine .tail _ ?_)) (by rfl)) rfl rfl rfl ?_
              | refine Jl.yd (Y.loadK1 z76 [.int .i64 y.f0, .int .i64 y.f1, .int .i64 y.f2, .int .i64 y.f3] rfl rfl sc3 (by repeat (first | exact memH | refine memT ?_)) ((k : Nat) : Int) 0 (by omega) (by omega) (by rfl) (fun w cs h => (k76_open h).trans huy) rfl) rfl rfl rfl ?_
              | refine Jl.yd (Y.loadK1 z76 [.int .i64 y.f0, .int .i64 y.f1, .int .i64 y.f2, .int .i64 y.f3] rfl rfl sc3 (by repeat (first | exact memH | refine memT ?_)) ((k : Nat) : Int) 1 (by omega) (by omega) (by rfl) (fun w cs h => (k76_open h).trans huy) rfl) rfl rfl rfl ?_
              | refine Jl.splitG rfl rfl (fun h => ?_) (fun h => ?_))
            | (apply gateE; first
              | refine Jl.nil (Ej.go ?_ (fun _ _ h => h))
              | (refine Jl.nil (Ej.back (fun _ _ h => h) (by repeat (first | exact .refl | apply DropTo.tail)) ?_); repeat (first | exact trivial | refine ⟨rfl, ?_⟩)))
            | (apply gateC; first
              | refine Cj.block rfl ?_
              | refine Cj.regionD rfl (mkD [0, 1, 2, 3, 4, 5, 6, 7, 8, 9, 10, 11, 12, 13, 14, 15, 16, 17, 18, 19, 20, 21, 22, 23, 24, 25, 26, 27, 28, 29, 30, 31, 32, 33] []) [] [0, 1, 2, 3, 4, 5, 6, 7, 8, 9, 10, 11, 12, 13, 14, 15, 16, 17, 18, 19, 20, 21, 22, 23, 24, 25, 26, 27, 28, 29, 30, 31, 32, 33] mixed (by decide +kernel) ?_
              | refine Cj.condF rfl rfl (Cj.skip rfl (Ej.go ?_ (fun _ _ h => h)))
              | (refine Cj.condF rfl rfl (Cj.skip rfl (Ej.back (fun _ _ h => h) (by repeat (first | exact .refl | apply DropTo.tail)) ?_)); repeat (first | exact trivial | refine ⟨rfl, ?_⟩))
              | refine Cj.condF rfl rfl ?_
              | refine Cj.condT rfl rfl ?_
              | refine Cj.exit rfl (Ej.go ?_ (fun _ _ h => h))
              | refine Cj.cond rfl rfl (fun h => ?_) (fun h => ?_)
              | refine Cj.skip rfl (Ej.go ?_ (fun _ _ h => h))
              | (refine Cj.skip rfl (Ej.back (fun _ _ h => h) (by repeat (first | exact .refl | apply DropTo.tail)) ?_); repeat (first | exact trivial | refine ⟨rfl, ?_⟩))
              | refine Cj.seq rfl ?_
              | refine Cj.region rfl ?_))
        refine Cj.exit rfl (Ej.cutP (ι := Unit) _ _ _ _ (fun _ _ h => h) () trivial ⟨rfl, rfl, rfl, rfl, trivial⟩ (by repeat (first | exact .nil | refine Pick.cons (by repeat (first | exact .z | apply OutAt.s)) ?_)) (fun p hp => by simp only [List.mem_cons, List.not_mem_nil, or_false] at hp ⊢; rcases hp with rfl | rfl <;> simp))
    · have heq : insK l x = k := by omega
      rw [heq]
      repeat (first
          | (apply gateO; first
            | refine Jl.yd (Y.mv rfl rfl) rfl rfl rfl ?_
            | refine Jl.yd (Y.asg rfl rfl) rfl rfl rfl ?_
            | refine Jl.yd (Y.ext rfl rfl rfl) rfl rfl rfl ?_
            | refine Jl.yd (Y.pickT rfl rfl rfl) rfl rfl rfl ?_
            | refine Jl.yd (Y.pickF rfl rfl rfl) rfl rfl rfl ?_
            | refine Jl.off rfl rfl rfl ?_
            | refine Jl.yd (Y.cmpF rfl rfl rfl rfl (by omega)) rfl rfl rfl ?_
            | refine Jl.yd (Y.cmpT rfl rfl rfl rfl (by omega)) rfl rfl rfl ?_
            | refine Jl.yd (Y.neqB rfl rfl rfl Try.underlying4) rfl rfl rfl ?_
            | refine Jl.yd (Y.cmp rfl rfl rfl rfl) rfl rfl rfl ?_
            | refine Jl.yd (Y.not rfl rfl) rfl rfl rfl ?_
            | refine Jl.yd (Y.arithN rfl rfl rfl rfl (by omega)) rfl rfl rfl ?_
            | refine Jl.yd (Y.arith64 rfl rfl rfl rfl) rfl rfl rfl ?_
            | refine Jl.yd (Y.lenS Try.underlying65 rfl rfl rfl) rfl rfl rfl ?_
            | refine Jl.yd (Y.idx rfl rfl rfl el65 (by omega) (by omega)) rfl rfl rfl ?_
            | refine Jl.splitG rfl rfl (fun h => ?_) (fun h => ?_))
          | (apply gateE; first
            | refine Jl.nil (Ej.go ?_ (fun _ _ h => h))
            | (refine Jl.nil (Ej.back (fun _ _ h => h) (by repeat (first | exact .refl | apply DropTo.tail)) ?_); repeat (first | exact trivial | refine ⟨rfl, ?_⟩)))
          | (apply gateC; first
            | refine Cj.block rfl ?_
            | refine Cj.regionD rfl (mkD [0, 1, 2, 3, 4, 5, 6, 7, 8, 9, 10, 11, 12, 13, 14, 15, 16, 17, 18, 19, 20, 21, 22, 23, 24, 25, 26, 27, 28, 29, 30, 31, 32, 33] []) [] [0, 1, 2, 3, 4, 5, 6, 7, 8, 9, 10, 11, 12, 13, 14, 15, 16, 17, 18, 19, 20, 21, 22, 23, 24, 25, 26, 27, 28, 29, 30, 31, 32, 33] mixed (by decide +kernel) ?_
            | refine Cj.condF rfl rfl (Cj.skip rfl (Ej.go ?_ (fun _ _ h => h)))
            | (refine Cj.condF rfl rfl (Cj.skip rfl (Ej.back (fun _ _ h => h) (by repeat (first | exact .refl | apply DropTo.tail)) ?_)); repeat (first | exact trivial | refine ⟨rfl, ?_⟩))
            | refine Cj.condF rfl rfl ?_
            | refine Cj.condT rfl rfl ?_
            | refine Cj.exit rfl (Ej.go ?_ (fun _ _ h => h))
            | refine Cj.cond rfl rfl (fun h => ?_) (fun h => ?_)
            | refine Cj.skip rfl (Ej.go ?_ (fun _ _ h => h))
            | (refine Cj.skip rfl (Ej.back (fun _ _ h => h) (by repeat (first | exact .refl | apply DropTo.tail)) ?_); repeat (first | exact trivial | refine ⟨rfl, ?_⟩))
            | refine Cj.seq rfl ?_
            | refine Cj.region rfl ?_))
      refine Cj.exit rfl (Ej.cutP (ι := Unit) _ _ _ _ (fun _ _ h => h) () trivial ⟨rfl, rfl, rfl, rfl, trivial⟩ (by repeat (first | exact .nil | refine Pick.cons (by repeat (first | exact .z | apply OutAt.s)) ?_)) (fun p hp => by simp only [List.mem_cons, List.not_mem_nil, or_false] at hp ⊢; rcases hp with rfl | rfl <;> simp))
  · skip
    refine Cj.ws (ι := Unit) (fun _ => True) (fun _ => [.box gx 76 [.int .i64 x.f0, .int .i64 x.f1, .int .i64 x.f2, .int .i64 x.f3], .box gc 26 [.int .i64 wd, .int .i64 ht, .slice A0 cs.length c0]]) (fun _ => [(fun W => Kd.C k76 W A1 (l.take (insK l x)).length (l.take (insK l x))), (fun W => Kd.C k76 W (if c1 = ((insK l x : Nat) : Int).toNat then A1 else Option.map (fun y => y.add (((insK l x : Nat) : Int).toNat * 4)) A1) (l.drop (insK l x)).length (l.drop (insK l x))), (fun W => Kd.C k76 W A1 l.length l), (fun W => Kd.C (Kd.int .i64) W A0 cs.length cs), (fun W => Kd.C k76 W A1 l.length l)]) (fun w' hW => ⟨(), trivial, (hW.both (p := (fun W => Kd.C k76 W A1 l.length l)) (q := (fun W => Kd.C k76 W A1 l.length l)) (r := (fun W => Kd.C k76 W (if c1 = ((insK l x : Nat) : Int).toNat then A1 else Option.map (fun y => y.add (((insK l x : Nat) : Int).toNat * 4)) A1) (l.drop (insK l x)).length (l.drop (insK l x)))) (memT memH) (memT memH) (fun W h _ => by rw [Int.toNat_natCast]; exact Kd.C_drop h insK_le hcl)).both (p := (fun W => Kd.C k76 W A1 l.length l)) (q := (fun W => Kd.C k76 W A1 l.length l)) (r := (fun W => Kd.C k76 W A1 (l.take (insK l x)).length (l.take (insK l x)))) (memT (memT memH)) (memT (memT memH)) (fun W h _ => Kd.C_take h insK_le) |> fun h => h.sub (fun p hp => by simp only [List.mem_cons, List.not_mem_nil, or_false] at hp ⊢; rcases hp with rfl | rfl | rfl | rfl | rfl <;> simp)⟩) (fun _ _ => ?_)
    refine Cj.seq rfl ?_
    refine Cj.regionJ rfl [0, 4, 5, 6, 7, 11] mixed ?_
    refine Jw.take 1 rfl (by decide +kernel) (by intro c a d v w h; cases d <;> exact h) (fun w => Y.mv rfl rfl) rfl rfl rfl ?_
    refine Jw.take 2 rfl (by decide +kernel) (by intro c a d v w h; cases d <;> exact h) (fun w => Y.mv rfl rfl) rfl rfl rfl ?_
    refine Jw.take 8 rfl (by decide +kernel) (by intro c a d v w h; cases d <;> exact h) (fun w => Y.mv rfl rfl) rfl rfl rfl ?_
    refine Jw.take 9 rfl (by decide +kernel) (by intro c a d v w h; cases d <;> exact h) (fun w => Y.mv rfl rfl) rfl rfl rfl ?_
    refine Jw.take 3 rfl (by decide +kernel) (by intro c a d v w h; cases d <;> exact h) (fun w => Y.sliTo rfl rfl rfl el65 (by omega) (by omega)) rfl rfl rfl ?_
    refine Jw.take 10 rfl (by decide +kernel) (by intro c a d v w h; cases d <;> exact h) (fun w => Y.sliFrom rfl rfl rfl el65 (by omega) (by omega)) rfl rfl rfl ?_
    refine Jw.br2 (mkD [] [0]) 0 5 rfl rfl (by decide +kernel) rfl rfl ?_ ?_
    · skip
      refine Jl.lit0 k76 rfl rfl rfl rfl el65 (fun g0 => ?_)
      refine Jl.jw ?_
      refine Jw.br2 (mkD [] [0]) 4 5 rfl rfl (by decide +kernel) rfl rfl ?_ ?_
      · skip
        refine Jl.appF (dk := k76) (xs := []) (zs := l.take (insK l x)) flat76 rfl rfl rfl rfl rfl rfl ap65 (by rw [List.length_take]; omega) (by repeat (first | exact memH | refine memT ?_)) (by repeat (first | exact .z | apply OutAt.s)) (by try simp only [List.length_append, List.length_cons, List.length_nil, List.length_take, List.length_drop]; omega) (by try simp only [List.length_append, List.length_cons, List.length_nil, List.length_take, List.length_drop]; omega) (fun A4 c4 h4 => ?_)
        refine Jl.jw ?_
        refine Jw.step (mkD [] [0]) 5 rfl (by decide +kernel) rfl rfl ?_
        refine Jl.yd (Y.loadA rfl rfl agg76 (by repeat (first | exact .head _ | refine .tail _ ?_)) (by rfl)) rfl rfl rfl ?_
        refine Jl.jw ?_
        refine Jw.step (mkD [] [0]) 6 rfl (by decide +kernel) rfl rfl ?_
        refine Jl.litS (us := [.int .i64 x.f0, .int .i64 x.f1, .int .i64 x.f2, .int .i64 x.f3]) (zs := [.int .i64 0, .int .i64 0, .int .i64 0, .int .i64 0]) rfl rfl rfl rfl rfl el65 zero76 rfl rfl (fill4 _ _ _ _ _ _ _ _) (fun g9 => ?_)
        refine Jl.jw ?_
        refine Jw.step (mkD [] [0]) 7 rfl (by decide +kernel) rfl rfl ?_
        refine Jl.app (dk := k76) (xs := [] ++ l.take (insK l x)) x (fun _ => False) rfl rfl rfl rfl rfl rfl ap65 (by repeat (first | exact .head _ | refine .tail _ ?_)) rfl (fun w => k76_mkM w 0 (fun _ => False) x) (FM.encO x) (by repeat (first | exact .z | apply OutAt.s)) (by try simp only [List.length_append, List.length_cons, List.length_nil, List.length_take, List.length_drop]; omega) (by try simp only [List.length_append, List.length_cons, List.length_nil, List.length_take, List.length_drop]; omega) (fun A7 c7 h7 => ?_)
        refine Jl.jw ?_
        refine Jw.step (mkD [] [0]) 11 rfl (by decide +kernel) rfl rfl ?_
        refine Jl.appF (dk := k76) (xs := ([] ++ l.take (insK l x)) ++ [x]) (zs := l.drop (insK l x)) flat76 rfl rfl rfl rfl rfl rfl ap65 (by rw [List.length_drop]; omega) (by repeat (first | exact memH | refine memT ?_)) (by repeat (first | exact .z | apply OutAt.s)) (by try simp only [List.length_append, List.length_cons, List.length_nil, List.length_take, List.length_drop]; omega) (by try simp only [List.length_append, List.length_cons, List.length_nil, List.length_take, List.length_drop]; omega) (fun A11 c11 h11 => ?_)
        refine Jl.jw ?_
        refine Jw.take 12 rfl (by decide +kernel) (by intro c a d v w h; cases d <;> exact h) (fun w => Y.asg rfl rfl) rfl rfl rfl ?_
        refine Jw.done (by decide +kernel) (Ej.go ?_ (fun _ _ h => h))
        repeat (first
            | (apply gateO; first
              | refine Jl.yd (Y.mv rfl rfl) rfl rfl rfl ?_
              | refine Jl.yd (Y.asg rfl rfl) rfl rfl rfl ?_
              | refine Jl.yd (Y.ext rfl rfl rfl) rfl rfl rfl ?_
              | refine Jl.yd (Y.pickT rfl rfl rfl) rfl rfl rfl ?_
              | refine Jl.yd (Y.pickF rfl rfl rfl) rfl rfl rfl ?_
              | refine Jl.off rfl rfl rfl ?_
              | refine Jl.yd (Y.cmpF rfl rfl rfl rfl (by omega)) rfl rfl rfl ?_
              | refine Jl.yd (Y.cmpT rfl rfl rfl rfl (by omega)) rfl rfl rfl ?_
              | refine Jl.yd (Y.neqB rfl rfl rfl Try.underlying4) rfl rfl rfl ?_
              | refine Jl.yd (Y.cmp rfl rfl rfl rfl) rfl rfl rfl ?_
              | refine Jl.yd (Y.not rfl rfl) rfl rfl rfl ?_
              | refine Jl.yd (Y.arithN rfl rfl rfl rfl (by omega)) rfl rfl rfl ?_
              | refine Jl.yd (Y.arith64 rfl rfl rfl rfl) rfl rfl rfl ?_
              | refine Jl.yd (Y.loadA rfl rfl agg26 (by repeat (first | exact .head _ | refine .tail _ ?_)) (by rfl)) rfl rfl rfl ?_
              | refine Jl.yd (Y.lenS Try.underlying65 rfl rfl rfl) rfl rfl rfl ?_
              | refine Jl.call1 (v := .bool false) rfl rfl rfl rfl en110 rfl (fun w hW => by with_reducible exact spec_l23Good.calls kk2 wd ht A0 c0 cs _ _ ((([] ++ l.take (insK l x)) ++ [x]) ++ l.drop (insK l x)) false w (hW.fact (p := (fun W => Kd.C (Kd.int .i64) W A0 cs.length cs)) (by repeat (first | exact memH | refine memT ?_))) hc (hW.rowC (by repeat (first | exact memH | refine memT ?_))) (hW.rowCap (by repeat (first | exact memH | refine memT ?_))).2 hk2) ?_
              | refine Jl.lit0 k76 rfl rfl rfl rfl el65 (fun gr => ?_)
              | refine Jl.splitG rfl rfl (fun h => ?_) (fun h => ?_))
            | (apply gateE; first
              | refine Jl.nil (Ej.go ?_ (fun _ _ h => h))
              | (refine Jl.nil (Ej.back (fun _ _ h => h) (by repeat (first | exact .refl | apply DropTo.tail)) ?_); repeat (first | exact trivial | refine ⟨rfl, ?_⟩)))
            | (apply gateC; first
              | refine Cj.ret rfl (Ej.out2 (P := Try.prog) (fn := Try.f49) (R := Rr) (fun _ _ h => h) rfl rfl rfl (fun w' hW => ⟨_, rfl, outH hW (by repeat (first | exact .nil | refine Pick.cons (by repeat (first | exact .z | apply OutAt.s)) ?_)), hW.below⟩))
              | refine Cj.condF rfl rfl (Cj.skip rfl (Ej.go ?_ (fun _ _ h => h)))
              | (refine Cj.condF rfl rfl (Cj.skip rfl (Ej.back (fun _ _ h => h) (by repeat (first | exact .refl | apply DropTo.tail)) ?_)); repeat (first | exact trivial | refine ⟨rfl, ?_⟩))
              | refine Cj.condF rfl rfl ?_
              | refine Cj.condT rfl rfl ?_
              | refine Cj.exit rfl (Ej.go ?_ (fun _ _ h => h))
              | refine Cj.cond rfl rfl (fun h => ?_) (fun h => ?_)
              | refine Cj.skip rfl (Ej.go ?_ (fun _ _ h => h))
              | (refine Cj.skip rfl (Ej.back (fun _ _ h => h) (by repeat (first | exact .refl | apply DropTo.tail)) ?_); repeat (first | exact trivial | refine ⟨rfl, ?_⟩))
              | refine Cj.seq rfl ?_
              | refine Cj.region rfl ?_))
      · skip
        refine Jl.yd (Y.loadA rfl rfl agg76 (by repeat (first | exact .head _ | refine .tail _ ?_)) (by rfl)) rfl rfl rfl ?_
        refine Jl.jw ?_
        refine Jw.br2 (mkD [] [0]) 4 6 rfl rfl (by decide +kernel) rfl rfl ?_ ?_
        · skip
          refine Jl.appF (dk := k76) (xs := []) (zs := l.take (insK l x)) flat76 rfl rfl rfl rfl rfl rfl ap65 (by rw [List.length_take]; omega) (by repeat (first | exact memH | refine memT ?_)) (by repeat (first | exact .z | apply OutAt.s)) (by try simp only [List.length_append, List.length_cons, List.length_nil, List.length_take, List.length_drop]; omega) (by try simp only [List.length_append, List.length_cons, List.length_nil, List.length_take, List.length_drop]; omega) (fun A4 c4 h4 => ?_)
          refine Jl.jw ?_
          refine Jw.step (mkD [] [0]) 6 rfl (by decide +kernel) rfl rfl ?_
          refine Jl.litS (us := [.int .i64 x.f0, .int .i64 x.f1, .int .i64 x.f2, .int .i64 x.f3]) (zs := [.int .i64 0, .int .i64 0, .int .i64 0, .int .i64 0]) rfl rfl rfl rfl rfl el65 zero76 rfl rfl (fill4 _ _ _ _ _ _ _ _) (fun g9 => ?_)
          refine Jl.jw ?_
          refine Jw.step (mkD [] [0]) 7 rfl (by decide +kernel) rfl rfl ?_
          refine Jl.app (dk := k76) (xs := [] ++ l.take (insK l x)) x (fun _ => False) rfl rfl rfl rfl rfl rfl ap65 (by repeat (first | exact .head _ | refine .tail _ ?_)) rfl (fun w => k76_mkM w 0 (fun _ => False) x) (FM.encO x) (by repeat (first | exact .z | apply OutAt.s)) (by try simp only [List.length_append, List.length_cons, List.length_nil, List.length_take, List.length_drop]; omega) (by try simp only [List.length_append, List.length_cons, List.length_nil, List.length_take, List.length_drop]; omega) (fun A7 c7 h7 => ?_)
          refine Jl.jw ?_
          refine Jw.step (mkD [] [0]) 11 rfl (by decide +kernel) rfl rfl ?_
          refine Jl.appF (dk := k76) (xs := ([] ++ l.take (insK l x)) ++ [x]) (zs := l.drop (insK l x)) flat76 rfl rfl rfl rfl rfl rfl ap65 (by rw [List.length_drop]; omega) (by repeat (first | exact memH | refine memT ?_)) (by repeat (first | exact .z | apply OutAt.s)) (by try simp only [List.length_append, List.length_cons, List.length_nil, List.length_take, List.length_drop]; omega) (by try simp only [List.length_append, List.length_cons, List.length_nil, List.length_take, List.length_drop]; omega) (fun A11 c11 h11 => ?_)
          refine Jl.jw ?_
          refine Jw.take 12 rfl (by decide +kernel) (by intro c a d v w h; cases d <;> exact h) (fun w => Y.asg rfl rfl) rfl rfl rfl ?_
          refine Jw.done (by decide +kernel) (Ej.go ?_ (fun _ _ h => h))
          repeat (first
              | (apply gateO; first
                | refine Jl.yd (Y.mv rfl rfl) rfl rfl rfl ?_
                | refine Jl.yd (Y.asg rfl rfl) rfl rfl rfl ?_
                | refine Jl.yd (Y.ext rfl rfl rfl) rfl rfl rfl ?_
                | refine Jl.yd (Y.pickT rfl rfl rfl) rfl rfl rfl ?_
                | refine Jl.yd (Y.pickF rfl rfl rfl) rfl rfl rfl ?_
                | refine Jl.off rfl rfl rfl ?_
                | refine Jl.yd (Y.cmpF rfl rfl rfl rfl (by omega)) rfl rfl rfl ?_
                | refine Jl.yd (Y.cmpT rfl rfl rfl rfl (by omega)) rfl rfl rfl ?_
                | refine Jl.yd (Y.neqB rfl rfl rfl Try.underlying4) rfl rfl rfl ?_
                | refine Jl.yd (Y.cmp rfl rfl rfl rfl) rfl rfl rfl ?_
                | refine Jl.yd (Y.not rfl rfl) rfl rfl rfl ?_
                | refine Jl.yd (Y.arithN rfl rfl rfl rfl (by omega)) rfl rfl rfl ?_
                | refine Jl.yd (Y.arith64 rfl rfl rfl rfl) rfl rfl rfl ?_
                | refine Jl.yd (Y.loadA rfl rfl agg26 (by repeat (first | exact .head _ | refine .tail _ ?_)) (by rfl)) rfl rfl rfl ?_
                | refine Jl.yd (Y.lenS Try.underlying65 rfl rfl rfl) rfl rfl rfl ?_
                | refine Jl.call1 (v := .bool false) rfl rfl rfl rfl en110 rfl (fun w hW => by with_reducible exact spec_l23Good.calls kk2 wd ht A0 c0 cs _ _ ((([] ++ l.take (insK l x)) ++ [x]) ++ l.drop (insK l x)) false w (hW.fact (p := (fun W => Kd.C (Kd.int .i64) W A0 cs.length cs)) (by repeat (first | exact memH | refine memT ?_))) hc (hW.rowC (by repeat (first | exact memH | refine memT ?_))) (hW.rowCap (by repeat (first | exact memH | refine memT ?_))).2 hk2) ?_
                | refine Jl.lit0 k76 rfl rfl rfl rfl el65 (fun gr => ?_)
                | refine Jl.splitG rfl rfl (fun h => ?_) (fun h => ?_))
              | (apply gateE; first
                | refine Jl.nil (Ej.go ?_ (fun _ _ h => h))
                | (refine Jl.nil (Ej.back (fun _ _ h => h) (by repeat (first | exact .refl | apply DropTo.tail)) ?_); repeat (first | exact trivial | refine ⟨rfl, ?_⟩)))
              | (apply gateC; first
                | refine Cj.ret rfl (Ej.out2 (P := Try.prog) (fn := Try.f49) (R := Rr) (fun _ _ h => h) rfl rfl rfl (fun w' hW => ⟨_, rfl, outH hW (by repeat (first | exact .nil | refine Pick.cons (by repeat (first | exact .z | apply OutAt.s)) ?_)), hW.below⟩))
                | refine Cj.condF rfl rfl (Cj.skip rfl (Ej.go ?_ (fun _ _ h => h)))
                | (refine Cj.condF rfl rfl (Cj.skip rfl (Ej.back (fun _ _ h => h) (by repeat (first | exact .refl | apply DropTo.tail)) ?_)); repeat (first | exact trivial | refine ⟨rfl, ?_⟩))
                | refine Cj.condF rfl rfl ?_
                | refine Cj.condT rfl rfl ?_
                | refine Cj.exit rfl (Ej.go ?_ (fun _ _ h => h))
                | refine Cj.cond rfl rfl (fun h => ?_) (fun h => ?_)
                | refine Cj.skip rfl (Ej.go ?_ (fun _ _ h => h))
                | (refine Cj.skip rfl (Ej.back (fun _ _ h => h) (by repeat (first | exact .refl | apply DropTo.tail)) ?_); repeat (first | exact trivial | refine ⟨rfl, ?_⟩))
                | refine Cj.seq rfl ?_
                | refine Cj.region rfl ?_))
        · skip
          refine Jl.litS (us := [.int .i64 x.f0, .int .i64 x.f1, .int .i64 x.f2, .int .i64 x.f3]) (zs := [.int .i64 0, .int .i64 0, .int .i64 0, .int .i64 0]) rfl rfl rfl rfl rfl el65 zero76 rfl rfl (fill4 _ _ _ _ _ _ _ _) (fun g9 => ?_)
          refine Jl.jw ?_
          refine Jw.step (mkD [] [0]) 4 rfl (by decide +kernel) rfl rfl ?_
          refine Jl.appF (dk := k76) (xs := []) (zs := l.take (insK l x)) flat76 rfl rfl rfl rfl rfl rfl ap65 (by rw [List.length_take]; omega) (by repeat (first | exact memH | refine memT ?_)) (by repeat (first | exact .z | apply OutAt.s)) (by try simp only [List.length_append, List.length_cons, List.length_nil, List.length_take, List.length_drop]; omega) (by try simp only [List.length_append, List.length_cons, List.length_nil, List.length_take, List.length_drop]; omega) (fun A4 c4 h4 => ?_)
          refine Jl.jw ?_
          refine Jw.step (mkD [] [0]) 7 rfl (by decide +kernel) rfl rfl ?_
          refine Jl.app (dk := k76) (xs := [] ++ l.take (insK l x)) x (fun _ => False) rfl rfl rfl rfl rfl rfl ap65 (by repeat (first | exact .head _ | refine .tail _ ?_)) rfl (fun w => k76_mkM w 0 (fun _ => False) x) (FM.encO x) (by repeat (first | exact .z | apply OutAt.s)) (by try simp only [List.length_append, List.length_cons, List.length_nil, List.length_take, List.length_drop]; omega) (by try simp only [List.length_append, List.length_cons, List.length_nil, List.length_take, List.length_drop]; omega) (fun A7 c7 h7 => ?_)
          refine Jl.jw ?_
          refine Jw.step (mkD [] [0]) 11 rfl (by decide +kernel) rfl rfl ?_
          refine Jl.appF (dk := k76) (xs := ([] ++ l.take (insK l x)) ++ [x]) (zs := l.drop (insK l x)) flat76 rfl rfl rfl rfl rfl rfl ap65 (by rw [List.length_drop]; omega) (by repeat (first | exact memH | refine memT ?_)) (by repeat (first | exact .z | apply OutAt.s)) (by try simp only [List.length_append, List.length_cons, List.length_nil, List.length_take, List.length_drop]; omega) (by try simp only [List.length_append, List.length_cons, List.length_nil, List.length_take, List.length_drop]; omega) (fun A11 c11 h11 => ?_)
          refine Jl.jw ?_
          refine Jw.take 12 rfl (by decide +kernel) (by intro c a d v w h; cases d <;> exact h) (fun w => Y.asg rfl rfl) rfl rfl rfl ?_
          refine Jw.done (by decide +kernel) (Ej.go ?_ (fun _ _ h => h))
          repeat (first
              | (apply gateO; first
                | refine Jl.yd (Y.mv rfl rfl) rfl rfl rfl ?_
                | refine Jl.yd (Y.asg rfl rfl) rfl rfl rfl ?_
                | refine Jl.yd (Y.ext rfl rfl rfl) rfl rfl rfl ?_
                | refine Jl.yd (Y.pickT rfl rfl rfl) rfl rfl rfl ?_
                | refine Jl.yd (Y.pickF rfl rfl rfl) rfl rfl rfl ?_
                | refine Jl.off rfl rfl rfl ?_
                | refine Jl.yd (Y.cmpF rfl rfl rfl rfl (by omega)) rfl rfl rfl ?_
                | refine Jl.yd (Y.cmpT rfl rfl rfl rfl (by omega)) rfl rfl rfl ?_
                | refine Jl.yd (Y.neqB rfl rfl rfl Try.underlying4) rfl rfl rfl ?_
                | refine Jl.yd (Y.cmp rfl rfl rfl rfl) rfl rfl rfl ?_
                | refine Jl.yd (Y.not rfl rfl) rfl rfl rfl ?_
                | refine Jl.yd (Y.arithN rfl rfl rfl rfl (by omega)) rfl rfl rfl ?_
                | refine Jl.yd (Y.arith64 rfl rfl rfl rfl) rfl rfl rfl ?_
                | refine Jl.yd (Y.loadA rfl rfl agg26 (by repeat (first | exact .head _ | refine .tail _ ?_)) (by rfl)) rfl rfl rfl ?_
                | refine Jl.yd (Y.lenS Try.underlying65 rfl rfl rfl) rfl rfl rfl ?_
                | refine Jl.call1 (v := .bool false) rfl rfl rfl rfl en110 rfl (fun w hW => by with_reducible exact spec_l23Good.calls kk2 wd ht A0 c0 cs _ _ ((([] ++ l.take (insK l x)) ++ [x]) ++ l.drop (insK l x)) false w (hW.fact (p := (fun W => Kd.C (Kd.int .i64) W A0 cs.length cs)) (by repeat (first | exact memH | refine memT ?_))) hc (hW.rowC (by repeat (first | exact memH | refine memT ?_))) (hW.rowCap (by repeat (first | exact memH | refine memT ?_))).2 hk2) ?_
                | refine Jl.lit0 k76 rfl rfl rfl rfl el65 (fun gr => ?_)
                | refine Jl.splitG rfl rfl (fun h => ?_) (fun h => ?_))
              | (apply gateE; first
                | refine Jl.nil (Ej.go ?_ (fun _ _ h => h))
                | (refine Jl.nil (Ej.back (fun _ _ h => h) (by repeat (first | exact .refl | apply DropTo.tail)) ?_); repeat (first | exact trivial | refine ⟨rfl, ?_⟩)))
              | (apply gateC; first
                | refine Cj.ret rfl (Ej.out2 (P := Try.prog) (fn := Try.f49) (R := Rr) (fun _ _ h => h) rfl rfl rfl (fun w' hW => ⟨_, rfl, outH hW (by repeat (first | exact .nil | refine Pick.cons (by repeat (first | exact .z | apply OutAt.s)) ?_)), hW.below⟩))
                | refine Cj.condF rfl rfl (Cj.skip rfl (Ej.go ?_ (fun _ _ h => h)))
                | (refine Cj.condF rfl rfl (Cj.skip rfl (Ej.back (fun _ _ h => h) (by repeat (first | exact .refl | apply DropTo.tail)) ?_)); repeat (first | exact trivial | refine ⟨rfl, ?_⟩))
                | refine Cj.condF rfl rfl ?_
                | refine Cj.condT rfl rfl ?_
                | refine Cj.exit rfl (Ej.go ?_ (fun _ _ h => h))
                | refine Cj.cond rfl rfl (fun h => ?_) (fun h => ?_)
                | refine Cj.skip rfl (Ej.go ?_ (fun _ _ h => h))
                | (refine Cj.skip rfl (Ej.back (fun _ _ h => h) (by repeat (first | exact .refl | apply DropTo.tail)) ?_); repeat (first | exact trivial | refine ⟨rfl, ?_⟩))
                | refine Cj.seq rfl ?_
                | refine Cj.region rfl ?_))
    · skip
      refine Jl.yd (Y.loadA rfl rfl agg76 (by repeat (first | exact .head _ | refine .tail _ ?_)) (by rfl)) rfl rfl rfl ?_
      refine Jl.jw ?_
      refine Jw.br2 (mkD [] [0]) 0 6 rfl rfl (by decide +kernel) rfl rfl ?_ ?_
      · skip
        refine Jl.lit0 k76 rfl rfl rfl rfl el65 (fun g0 => ?_)
        refine Jl.jw ?_
        refine Jw.br2 (mkD [] [0]) 4 6 rfl rfl (by decide +kernel) rfl rfl ?_ ?_
        · skip
          refine Jl.appF (dk := k76) (xs := []) (zs := l.take (insK l x)) flat76 rfl rfl rfl rfl rfl rfl ap65 (by rw [List.length_take]; omega) (by repeat (first | exact memH | refine memT ?_)) (by repeat (first | exact .z | apply OutAt.s)) (by try simp only [List.length_append, List.length_cons, List.length_nil, List.length_take, List.length_drop]; omega) (by try simp only [List.length_append, List.length_cons, List.length_nil, List.length_take, List.length_drop]; omega) (fun A4 c4 h4 => ?_)
          refine Jl.jw ?_
          refine Jw.step (mkD [] [0]) 6 rfl (by decide +kernel) rfl rfl ?_
          refine Jl.litS (us := [.int .i64 x.f0, .int .i64 x.f1, .int .i64 x.f2, .int .i64 x.f3]) (zs := [.int .i64 0, .int .i64 0, .int .i64 0, .int .i64 0]) rfl rfl rfl rfl rfl el65 zero76 rfl rfl (fill4 _ _ _ _ _ _ _ _) (fun g9 => ?_)
          refine Jl.jw ?_
          refine Jw.step (mkD [] [0]) 7 rfl (by decide +kernel) rfl rfl ?_
          refine Jl.app (dk := k76) (xs := [] ++ l.take (insK l x)) x (fun _ => False) rfl rfl rfl rfl rfl rfl ap65 (by repeat (first | exact .head _ | refine .tail _ ?_)) rfl (fun w => k76_mkM w 0 (fun _ => False) x) (FM.encO x) (by repeat (first | exact .z | apply OutAt.s)) (by try simp only [List.length_append, List.length_cons, List.length_nil, List.length_take, List.length_drop]; omega) (by try simp only [List.length_append, List.length_cons, List.length_nil, List.length_take, List.length_drop]; omega) (fun A7 c7 h7 => ?_)
          refine Jl.jw ?_
          refine Jw.step (mkD [] [0]) 11 rfl (by decide +kernel) rfl rfl ?_
          refine Jl.appF (dk := k76) (xs := ([] ++ l.take (insK l x)) ++ [x]) (zs := l.drop (insK l x)) flat76 rfl rfl rfl rfl rfl rfl ap65 (by rw [List.length_drop]; omega) (by repeat (first | exact memH | refine memT ?_)) (by repeat (first | exact .z | apply OutAt.s)) (by try simp only [List.length_append, List.length_cons, List.length_nil, List.length_take, List.length_drop]; omega) (by try simp only [List.length_append, List.length_cons, List.length_nil, List.length_take, List.length_drop]; omega) (fun A11 c11 h11 => ?_)
          refine Jl.jw ?_
          refine Jw.take 12 rfl (by decide +kernel) (by intro c a d v w h; cases d <;> exact h) (fun w => Y.asg rfl rfl) rfl rfl rfl ?_
          refine Jw.done (by decide +kernel) (Ej.go ?_ (fun _ _ h => h))
          repeat (first
              | (apply gateO; first
                | refine Jl.yd (Y.mv rfl rfl) rfl rfl rfl ?_
                | refine Jl.yd (Y.asg rfl rfl) rfl rfl rfl ?_
                | refine Jl.yd (Y.ext rfl rfl rfl) rfl rfl rfl ?_
                | refine Jl.yd (Y.pickT rfl rfl rfl) rfl rfl rfl ?_
                | refine Jl.yd (Y.pickF rfl rfl rfl) rfl rfl rfl ?_
                | refine Jl.off rfl rfl rfl ?_
                | refine Jl.yd (Y.cmpF rfl rfl rfl rfl (by omega)) rfl rfl rfl ?_
                | refine Jl.yd (Y.cmpT rfl rfl rfl rfl (by omega)) rfl rfl rfl ?_
                | refine Jl.yd (Y.neqB rfl rfl rfl Try.underlying4) rfl rfl rfl ?_
                | refine Jl.yd (Y.cmp rfl rfl rfl rfl) rfl rfl rfl ?_
                | refine Jl.yd (Y.not rfl rfl) rfl rfl rfl ?_
                | refine Jl.yd (Y.arithN rfl rfl rfl rfl (by omega)) rfl rfl rfl ?_
                | refine Jl.yd (Y.arith64 rfl rfl rfl rfl) rfl rfl rfl ?_
                | refine Jl.yd (Y.loadA rfl rfl agg26 (by repeat (first | exact .head _ | refine .tail _ ?_)) (by rfl)) rfl rfl rfl ?_
                | refine Jl.yd (Y.lenS Try.underlying65 rfl rfl rfl) rfl rfl rfl ?_
                | refine Jl.call1 (v := .bool false) rfl rfl rfl rfl en110 rfl (fun w hW => by with_reducible exact spec_l23Good.calls kk2 wd ht A0 c0 cs _ _ ((([] ++ l.take (insK l x)) ++ [x]) ++ l.drop (insK l x)) false w (hW.fact (p := (fun W => Kd.C (Kd.int .i64) W A0 cs.length cs)) (by repeat (first | exact memH | refine memT ?_))) hc (hW.rowC (by repeat (first | exact memH | refine memT ?_))) (hW.rowCap (by repeat (first | exact memH | refine memT ?_))).2 hk2) ?_
                | refine Jl.lit0 k76 rfl rfl rfl rfl el65 (fun gr => ?_)
                | refine Jl.splitG rfl rfl (fun h => ?_) (fun h => ?_))
              | (apply gateE; first
                | refine Jl.nil (Ej.go ?_ (fun _ _ h => h))
                | (refine Jl.nil (Ej.back (fun _ _ h => h) (by repeat (first | exact .refl | apply DropTo.tail)) ?_); repeat (first | exact trivial | refine ⟨rfl, ?_⟩)))
              | (apply gateC; first
                | refine Cj.ret rfl (Ej.out2 (P := Try.prog) (fn := Try.f49) (R := Rr) (fun _ _ h => h) rfl rfl rfl (fun w' hW => ⟨_, rfl, outH hW (by repeat (first | exact .nil | refine Pick.cons (by repeat (first | exact .z | apply OutAt.s)) ?_)), hW.below⟩))
                | refine Cj.condF rfl rfl (Cj.skip rfl (Ej.go ?_ (fun _ _ h => h)))
                | (refine Cj.condF rfl rfl (Cj.skip rfl (Ej.back (fun _ _ h => h) (by repeat (first | exact .refl | apply DropTo.tail)) ?_)); repeat (first | exact trivial | refine ⟨rfl, ?_⟩))
                | refine Cj.condF rfl rfl ?_
                | refine Cj.condT rfl rfl ?_
                | refine Cj.exit rfl (Ej.go ?_ (fun _ _ h => h))
                | refine Cj.cond rfl rfl (fun h => ?_) (fun h => ?_)
                | refine Cj.skip rfl (Ej.go ?_ (fun _ _ h => h))
                | (refine Cj.skip rfl (Ej.back (fun _ _ h => h) (by repeat (first | exact .refl | apply DropTo.tail)) ?_); repeat (first | exact trivial | refine ⟨rfl, ?_⟩))
                | refine Cj.seq rfl ?_
                | refine Cj.region rfl ?_))
        · skip
          refine Jl.litS (us := [.int .i64 x.f0, .int .i64 x.f1, .int .i64 x.f2, .int .i64 x.f3]) (zs := [.int .i64 0, .int .i64 0, .int .i64 0, .int .i64 0]) rfl rfl rfl rfl rfl el65 zero76 rfl rfl (fill4 _ _ _ _ _ _ _ _) (fun g9 => ?_)
          refine Jl.jw ?_
          refine Jw.step (mkD [] [0]) 4 rfl (by decide +kernel) rfl rfl ?_
          refine Jl.appF (dk := k76) (xs := []) (zs := l.take (insK l x)) flat76 rfl rfl rfl rfl rfl rfl ap65 (by rw [List.length_take]; omega) (by repeat (first | exact memH | refine memT ?_)) (by repeat (first | exact .z | apply OutAt.s)) (by try simp only [List.length_append, List.length_cons, List.length_nil, List.length_take, List.length_drop]; omega) (by try simp only [List.length_append, List.length_cons, List.length_nil, List.length_take, List.length_drop]; omega) (fun A4 c4 h4 => ?_)
          refine Jl.jw ?_
          refine Jw.step (mkD [] [0]) 7 rfl (by decide +kernel) rfl rfl ?_
          refine Jl.app (dk := k76) (xs := [] ++ l.take (insK l x)) x (fun _ => False) rfl rfl rfl rfl rfl rfl ap65 (by repeat (first | exact .head _ | refine .tail _ ?_)) rfl (fun w => k76_mkM w 0 (fun _ => False) x) (FM.encO x) (by repeat (first | exact .z | apply OutAt.s)) (by try simp only [List.length_append, List.length_cons, List.length_nil, List.length_take, List.length_drop]; omega) (by try simp only [List.length_append, List.length_cons, List.length_nil, List.length_take, List.length_drop]; omega) (fun A7 c7 h7 => ?_)
          refine Jl.jw ?_
          refine Jw.step (mkD [] [0]) 11 rfl (by decide +kernel) rfl rfl ?_
          refine Jl.appF (dk := k76) (xs := ([] ++ l.take (insK l x)) ++ [x]) (zs := l.drop (insK l x)) flat76 rfl rfl rfl rfl rfl rfl ap65 (by rw [List.length_drop]; omega) (by repeat (first | exact memH | refine memT ?_)) (by repeat (first | exact .z | apply OutAt.s)) (by try simp only [List.length_append, List.length_cons, List.length_nil, List.length_take, List.length_drop]; omega) (by try simp only [List.length_append, List.length_cons, List.length_nil, List.length_take, List.length_drop]; omega) (fun A11 c11 h11 => ?_)
          refine Jl.jw ?_
          refine Jw.take 12 rfl (by decide +kernel) (by intro c a d v w h; cases d <;> exact h) (fun w => Y.asg rfl rfl) rfl rfl rfl ?_
          refine Jw.done (by decide +kernel) (Ej.go ?_ (fun _ _ h => h))
          repeat (first
              | (apply gateO; first
                | refine Jl.yd (Y.mv rfl rfl) rfl rfl rfl ?_
                | refine Jl.yd (Y.asg rfl rfl) rfl rfl rfl ?_
                | refine Jl.yd (Y.ext rfl rfl rfl) rfl rfl rfl ?_
                | refine Jl.yd (Y.pickT rfl rfl rfl) rfl rfl rfl ?_
                | refine Jl.yd (Y.pickF rfl rfl rfl) rfl rfl rfl ?_
                | refine Jl.off rfl rfl rfl ?_
                | refine Jl.yd (Y.cmpF rfl rfl rfl rfl (by omega)) rfl rfl rfl ?_
                | refine Jl.yd (Y.cmpT rfl rfl rfl rfl (by omega)) rfl rfl rfl ?_
                | refine Jl.yd (Y.neqB rfl rfl rfl Try.underlying4) rfl rfl rfl ?_
                | refine Jl.yd (Y.cmp rfl rfl rfl rfl) rfl rfl rfl ?_
                | refine Jl.yd (Y.not rfl rfl) rfl rfl rfl ?_
                | refine Jl.yd (Y.arithN rfl rfl rfl rfl (by omega)) rfl rfl rfl ?_
                | refine Jl.yd (Y.arith64 rfl rfl rfl rfl) rfl rfl rfl ?_
                | refine Jl.yd (Y.loadA rfl rfl agg26 (by repeat (first | exact .head _ | refine .tail _ ?_)) (by rfl)) rfl rfl rfl ?_
                | refine Jl.yd (Y.lenS Try.underlying65 rfl rfl rfl) rfl rfl rfl ?_
                | refine Jl.call1 (v := .bool false) rfl rfl rfl rfl en110 rfl (fun w hW => by with_reducible exact spec_l23Good.calls kk2 wd ht A0 c0 cs _ _ ((([] ++ l.take (insK l x)) ++ [x]) ++ l.drop (insK l x)) false w (hW.fact (p := (fun W => Kd.C (Kd.int .i64) W A0 cs.length cs)) (by repeat (first | exact memH | refine memT ?_))) hc (hW.rowC (by repeat (first | exact memH | refine memT ?_))) (hW.rowCap (by repeat (first | exact memH | refine memT ?_))).2 hk2) ?_
                | refine Jl.lit0 k76 rfl rfl rfl rfl el65 (fun gr => ?_)
                | refine Jl.splitG rfl rfl (fun h => ?_) (fun h => ?_))
              | (apply gateE; first
                | refine Jl.nil (Ej.go ?_ (fun _ _ h => h))
                | (refine Jl.nil (Ej.back (fun _ _ h => h) (by repeat (first | exact .refl | apply DropTo.tail)) ?_); repeat (first | exact trivial | refine ⟨rfl, ?_⟩)))
              | (apply gateC; first
                | refine Cj.ret rfl (Ej.out2 (P := Try.prog) (fn := Try.f49) (R := Rr) (fun _ _ h => h) rfl rfl rfl (fun w' hW => ⟨_, rfl, outH hW (by repeat (first | exact .nil | refine Pick.cons (by repeat (first | exact .z | apply OutAt.s)) ?_)), hW.below⟩))
                | refine Cj.condF rfl rfl (Cj.skip rfl (Ej.go ?_ (fun _ _ h => h)))
                | (refine Cj.condF rfl rfl (Cj.skip rfl (Ej.back (fun _ _ h => h) (by repeat (first | exact .refl | apply DropTo.tail)) ?_)); repeat (first | exact trivial | refine ⟨rfl, ?_⟩))
                | refine Cj.condF rfl rfl ?_
                | refine Cj.condT rfl rfl ?_
                | refine Cj.exit rfl (Ej.go ?_ (fun _ _ h => h))
                | refine Cj.cond rfl rfl (fun h => ?_) (fun h => ?_)
                | refine Cj.skip rfl (Ej.go ?_ (fun _ _ h => h))
                | (refine Cj.skip rfl (Ej.back (fun _ _ h => h) (by repeat (first | exact .refl | apply DropTo.tail)) ?_); repeat (first | exact trivial | refine ⟨rfl, ?_⟩))
                | refine Cj.seq rfl ?_
                | refine Cj.region rfl ?_))
      · skip
        refine Jl.litS (us := [.int .i64 x.f0, .int .i64 x.f1, .int .i64 x.f2, .int .i64 x.f3]) (zs := [.int .i64 0, .int .i64 0, .int .i64 0, .int .i64 0]) rfl rfl rfl rfl rfl el65 zero76 rfl rfl (fill4 _ _ _ _ _ _ _ _) (fun g9 => ?_)
        refine Jl.jw ?_
        refine Jw.step (mkD [] [0]) 0 rfl (by decide +kernel) rfl rfl ?_
        refine Jl.lit0 k76 rfl rfl rfl rfl el65 (fun g0 => ?_)
        refine Jl.jw ?_
        refine Jw.step (mkD [] [0]) 4 rfl (by decide +kernel) rfl rfl ?_
        refine Jl.appF (dk := k76) (xs := []) (zs := l.take (insK l x)) flat76 rfl rfl rfl rfl rfl rfl ap65 (by rw [List.length_take]; omega) (by repeat (first | exact memH | refine memT ?_)) (by repeat (first | exact .z | apply OutAt.s)) (by try simp only [List.length_append, List.length_cons, List.length_nil, List.length_take, List.length_drop]; omega) (by try simp only [List.length_append, List.length_cons, List.length_nil, List.length_take, List.length_drop]; omega) (fun A4 c4 h4 => ?_)
        refine Jl.jw ?_
        refine Jw.step (mkD [] [0]) 7 rfl (by decide +kernel) rfl rfl ?_
        refine Jl.app (dk := k76) (xs := [] ++ l.take (insK l x)) x (fun _ => False) rfl rfl rfl rfl rfl rfl ap65 (by repeat (first | exact .head _ | refine .tail _ ?_)) rfl (fun w => k76_mkM w 0 (fun _ => False) x) (FM.encO x) (by repeat (first | exact .z | apply OutAt.s)) (by try simp only [List.length_append, List.length_cons, List.length_nil, List.length_take, List.length_drop]; omega) (by try simp only [List.length_append, List.length_cons, List.length_nil, List.length_take, List.length_drop]; omega) (fun A7 c7 h7 => ?_)
        refine Jl.jw ?_
        refine Jw.step (mkD [] [0]) 11 rfl (by decide +kernel) rfl rfl ?_
        refine Jl.appF (dk := k76) (xs := ([] ++ l.take (insK l x)) ++ [x]) (zs := l.drop (insK l x)) flat76 rfl rfl rfl rfl rfl rfl ap65 (by rw [List.length_drop]; omega) (by repeat (first | exact memH | refine memT ?_)) (by repeat (first | exact .z | apply OutAt.s)) (by try simp only [List.length_append, List.length_cons, List.length_nil, List.length_take, List.length_drop]; omega) (by try simp only [List.length_append, List.length_cons, List.length_nil, List.length_take, List.length_drop]; omega) (fun A11 c11 h11 => ?_)
        refine Jl.jw ?_
        refine Jw.take 12 rfl (by decide +kernel) (by intro c a d v w h; cases d <;> exact h) (fun w => Y.asg rfl rfl) rfl rfl rfl ?_
        refine Jw.done (by decide +kernel) (Ej.go ?_ (fun _ _ h => h))
        repeat (first
            | (apply gateO; first
              | refine Jl.yd (Y.mv rfl rfl) rfl rfl rfl ?_
              | refine Jl.yd (Y.asg rfl rfl) rfl rfl rfl ?_
              | refine Jl.yd (Y.ext rfl rfl rfl) rfl rfl rfl ?_
              | refine Jl.yd (Y.pickT rfl rfl rfl) rfl rfl rfl ?_
              | refine Jl.yd (Y.pickF rfl rfl rfl) rfl rfl rfl ?_
              | refine Jl.off rfl rfl rfl ?_
              | refine Jl.yd (Y.cmpF rfl rfl rfl rfl (by omega)) rfl rfl rfl ?_
              | refine Jl.yd (Y.cmpT rfl rfl rfl rfl (by omega)) rfl rfl rfl ?_
              | refine Jl.yd (Y.neqB rfl rfl rfl Try.underlying4) rfl rfl rfl ?_
              | refine Jl.yd (Y.cmp rfl rfl rfl rfl) rfl rfl rfl ?_
              | refine Jl.yd (Y.not rfl rfl) rfl rfl rfl ?_
              | refine Jl.yd (Y.arithN rfl rfl rfl rfl (by omega)) rfl rfl rfl ?_
              | refine Jl.yd (Y.arith64 rfl rfl rfl rfl) rfl rfl rfl ?_
              | refine Jl.yd (Y.loadA rfl rfl agg26 (by repeat (first | exact .head _ | refine .tail _ ?_)) (by rfl)) rfl rfl rfl ?_
              | refine Jl.yd (Y.lenS Try.underlying65 rfl rfl rfl) rfl rfl rfl ?_
              | refine Jl.call1 (v := .bool false) rfl rfl rfl rfl en110 rfl (fun w hW => by with_reducible exact spec_l23Good.calls kk2 wd ht A0 c0 cs _ _ ((([] ++ l.take (insK l x)) ++ [x]) ++ l.drop (insK l x)) false w (hW.fact (p := (fun W => Kd.C (Kd.int .i64) W A0 cs.length cs)) (by repeat (first | exact memH | refine memT ?_))) hc (hW.rowC (by repeat (first | exact memH | refine memT ?_))) (hW.rowCap (by repeat (first | exact memH | refine memT ?_))).2 hk2) ?_
              | refine Jl.lit0 k76 rfl rfl rfl rfl el65 (fun gr => ?_)
              | refine Jl.splitG rfl rfl (fun h => ?_) (fun h => ?_))
            | (apply gateE; first
              | refine Jl.nil (Ej.go ?_ (fun _ _ h => h))
              | (refine Jl.nil (Ej.back (fun _ _ h => h) (by repeat (first | exact .refl | apply DropTo.tail)) ?_); repeat (first | exact trivial | refine ⟨rfl, ?_⟩)))
            | (apply gateC; first
              | refine Cj.ret rfl (Ej.out2 (P := Try.prog) (fn := Try.f49) (R := Rr) (fun _ _ h => h) rfl rfl rfl (fun w' hW => ⟨_, rfl, outH hW (by repeat (first | exact .nil | refine Pick.cons (by repeat (first | exact .z | apply OutAt.s)) ?_)), hW.below⟩))
              | refine Cj.condF rfl rfl (Cj.skip rfl (Ej.go ?_ (fun _ _ h => h)))
              | (refine Cj.condF rfl rfl (Cj.skip rfl (Ej.back (fun _ _ h => h) (by repeat (first | exact .refl | apply DropTo.tail)) ?_)); repeat (first | exact trivial | refine ⟨rfl, ?_⟩))
              | refine Cj.condF rfl rfl ?_
              | refine Cj.condT rfl rfl ?_
              | refine Cj.exit rfl (Ej.go ?_ (fun _ _ h => h))
              | refine Cj.cond rfl rfl (fun h => ?_) (fun h => ?_)
              | refine Cj.skip rfl (Ej.go ?_ (fun _ _ h => h))
              | (refine Cj.skip rfl (Ej.back (fun _ _ h => h) (by repeat (first | exact .refl | apply DropTo.tail)) ?_); repeat (first | exact trivial | refine ⟨rfl, ?_⟩))
              | refine Cj.seq rfl ?_
              | refine Cj.region rfl ?_))
set_option maxHeartbeats 16000000 in
/-- The reference's AddHole. -/
theorem asYes {wd ht : Int} {cs : List Int} {l : List S76} (x : S76) (A0 : Option Addr) (c0 : Nat) (A1 : Option Addr) (c1 : Nat) (w : World) (hrC : Kd.C (Kd.int .i64) w A0 cs.length cs) (hc : cs.length ≤ c0) (hrH : Kd.C k76 w A1 l.length l) (hcl : l.length ≤ c1) (hlb : l.length ≤ 1048576) (hcb : cs.length ≤ 1048576) (hg : goodH wd ht cs l = true) (hg2 : goodH wd ht cs (insL l (insK l x) x) = true) : Calls Try.prog 49 #[.agg #[.int .i64 wd, .int .i64 ht, .slice A0 cs.length c0], .slice A1 l.length c1, .agg #[.int .i64 x.f0, .int .i64 x.f1, .int .i64 x.f2, .int .i64 x.f3]] w fun e w' => ∃ v, e = .returned (.tuple #[v, .bool true]) ∧ k76.R 76 w' w.heap.size (fun _ => True) v (insL l (insK l x) x) ∧ Below w.heap.size w w' := by
  obtain ⟨kk, hk⟩ := (sHoles wd ht cs l hcb hlb).rounds
  rw [hg] at hk
  obtain ⟨_, hl8, _⟩ := goodHole hg
  have hKl : insK l x ≤ l.length := insK_le
  have hil : (insL l (insK l x) x).length = l.length + 1 := insL_len x insK_le
  have hie : ((([] ++ l.take (insK l x)) ++ [x]) ++ l.drop (insK l x)) = insL l (insK l x) x := rfl
  obtain ⟨kk2, hk2⟩ := (sHoles wd ht cs (insL l (insK l x) x) hcb (by omega)).rounds
  rw [hg2, ← hie] at hk2
  rw [← hie] at hil
  let Rr : Ending → World → Prop := fun e w' => ∃ v, e = .returned (.tuple #[v, .bool true]) ∧ k76.R 76 w' w.heap.size (fun _ => True) v (insL l (insK l x) x) ∧ Below w.heap.size w w'
  refine enterW (args := [.agg #[.int .i64 wd, .int .i64 ht, .slice A0 cs.length c0], .slice A1 l.length c1, .agg #[.int .i64 x.f0, .int .i64 x.f1, .int .i64 x.f2, .int .i64 x.f3]]) [(fun W => Kd.C (Kd.int .i64) W A0 cs.length cs), (fun W => Kd.C k76 W A1 l.length l)] (fun p hp W hb => by
    rcases List.mem_cons.1 hp with rfl | hp
    · exact Kd.C_below hrC hb
    · rw [List.mem_singleton.1 hp]; exact Kd.C_below hrH hb) Try.func49 rfl rfl ?_
  show Cj Try.prog _ _ _ (bodyPost Try.prog Try.f49 Rr) _ _ _
  repeat (first
    | (apply gateO; first
      | refine Jl.yd (Y.mv rfl rfl) rfl rfl rfl ?_
      | refine Jl.yd (Y.asg rfl rfl) rfl rfl rfl ?_
      | refine Jl.yd (Y.ext rfl rfl rfl) rfl rfl rfl ?_
      | refine Jl.yd (Y.pickT rfl rfl rfl) rfl rfl rfl ?_
      | refine Jl.yd (Y.pickF rfl rfl rfl) rfl rfl rfl ?_
      | refine Jl.off rfl rfl rfl ?_
      | refine Jl.yd (Y.cmpF rfl rfl rfl rfl (by omega)) rfl rfl rfl ?_
      | refine Jl.yd (Y.cmpT rfl rfl rfl rfl (by omega)) rfl rfl rfl ?_
      | refine Jl.yd (Y.neqB rfl rfl rfl Try.underlying4) rfl rfl rfl ?_
      | refine Jl.yd (Y.cmp rfl rfl rfl rfl) rfl rfl rfl ?_
      | refine Jl.yd (Y.not rfl rfl) rfl rfl rfl ?_
      | refine Jl.yd (Y.arithN rfl rfl rfl rfl (by omega)) rfl rfl rfl ?_
      | refine Jl.yd (Y.arith64 rfl rfl rfl rfl) rfl rfl rfl ?_
      | refine Jl.yd (Y.loadA rfl rfl agg26 (by repeat (first | exact .head _ | refine .tail _ ?_)) (by rfl)) rfl rfl rfl ?_
      | refine Jl.yd (Y.lenS Try.underlying65 rfl rfl rfl) rfl rfl rfl ?_
      | refine Jl.box (zs := [.int .i64 wd, .int .i64 ht, .slice A0 cs.length c0]) rfl rfl rfl rfl rfl (by rfl) (fun gc => ?_)
      | refine Jl.box (zs := [.int .i64 x.f0, .int .i64 x.f1, .int .i64 x.f2, .int .i64 x.f3]) rfl rfl rfl rfl rfl (by rfl) (fun gx => ?_)
      | refine Jl.call1 (v := .bool true) rfl rfl rfl rfl en110 rfl (fun w hW => by with_reducible exact spec_l23Good.calls kk wd ht A0 c0 cs A1 c1 l true w (hW.fact (p := (fun W => Kd.C (Kd.int .i64) W A0 cs.length cs)) (by repeat (first | exact memH | refine memT ?_))) hc (hW.fact (p := (fun W => Kd.C k76 W A1 l.length l)) (by repeat (first | exact memH | refine memT ?_))) hcl hk) ?_
      | refine Jl.splitG rfl rfl (fun h => ?_) (fun h => ?_))
    | (apply gateE; first
      | refine Jl.nil (Ej.go ?_ (fun _ _ h => h))
      | (refine Jl.nil (Ej.back (fun _ _ h => h) (by repeat (first | exact .refl | apply DropTo.tail)) ?_); repeat (first | exact trivial | refine ⟨rfl, ?_⟩)))
    | (apply gateC; first
      | refine Cj.condF rfl rfl (Cj.skip rfl (Ej.go ?_ (fun _ _ h => h)))
      | (refine Cj.condF rfl rfl (Cj.skip rfl (Ej.back (fun _ _ h => h) (by repeat (first | exact .refl | apply DropTo.tail)) ?_)); repeat (first | exact trivial | refine ⟨rfl, ?_⟩))
      | refine Cj.condF rfl rfl ?_
      | refine Cj.condT rfl rfl ?_
      | refine Cj.exit rfl (Ej.go ?_ (fun _ _ h => h))
      | refine Cj.cond rfl rfl (fun h => ?_) (fun h => ?_)
      | refine Cj.skip rfl (Ej.go ?_ (fun _ _ h => h))
      | (refine Cj.skip rfl (Ej.back (fun _ _ h => h) (by repeat (first | exact .refl | apply DropTo.tail)) ?_); repeat (first | exact trivial | refine ⟨rfl, ?_⟩))
      | refine Cj.seq rfl ?_
      | refine Cj.region rfl ?_))
  refine Cj.cutThen (ι := Unit) (fun _ => True) (fun _ => [(1, .slice A1 l.length c1), (3, .pointer (some ⟨gc, 0, none⟩)), (5, .pointer (some ⟨gx, 0, none⟩)), (8, .int .i64 (((insK l x : Nat) : Int) : Int))]) (fun _ => [.box gx 76 [.int .i64 x.f0, .int .i64 x.f1, .int .i64 x.f2, .int .i64 x.f3], .box gc 26 [.int .i64 wd, .int .i64 ht, .slice A0 cs.length c0]]) (fun _ => [(fun W => Kd.C (Kd.int .i64) W A0 cs.length cs), (fun W => Kd.C k76 W A1 l.length l)]) ?_ (fun _ _ => Ej.go ?_ (fun _ _ h => h))
  · refine Cj.block rfl ?_
    refine Cj.loopP (ι := Nat) (fun k => k ≤ insK l x) (fun k => [(1, .slice A1 l.length c1), (3, .pointer (some ⟨gc, 0, none⟩)), (5, .pointer (some ⟨gx, 0, none⟩)), (8, .int .i64 (((k : Nat) : Int) : Int))]) (fun _ => [.box gx 76 [.int .i64 x.f0, .int .i64 x.f1, .int .i64 x.f2, .int .i64 x.f3], .box gc 26 [.int .i64 wd, .int .i64 ht, .slice A0 cs.length c0]]) (fun _ => [(fun W => Kd.C (Kd.int .i64) W A0 cs.length cs), (fun W => Kd.C k76 W A1 l.length l)]) (fun k => insK l x - k) rfl 0 (Nat.zero_le _) ⟨rfl, rfl, rfl, rfl, trivial⟩ (by repeat (first | exact .nil | refine Pick.cons (by repeat (first | exact .z | apply OutAt.s)) ?_)) (fun p hp => hp) (fun k hk => ?_)
    by_cases hlt : k < l.length
    · obtain ⟨ad, rfl, _⟩ := hrH.2.2 (by omega)
      obtain ⟨y, hy⟩ : ∃ y, nth l k z76 = y := ⟨_, rfl⟩
      have huy : ([.int .i64 (l.getD ((k : Nat) : Int).toNat z76).f0, .int .i64 (l.getD ((k : Nat) : Int).toNat z76).f1, .int .i64 (l.getD ((k : Nat) : Int).toNat z76).f2, .int .i64 (l.getD ((k : Nat) : Int).toNat z76).f3] : List Value) = [.int .i64 y.f0, .int .i64 y.f1, .int .i64 y.f2, .int .i64 y.f3] := by
        have hx2 : l.getD k z76 = y := hy
        rw [Int.toNat_natCast, hx2]
      have hbt : befH y x = true → k < insK l x := fun h => by
        rcases Nat.lt_or_ge k (insK l x) with h1 | h1
        · exact h1
        · obtain rfl : k = insK l x := by omega
          have := cntB_at (bef := befH) (z := z76) (l := l) (x := x) hlt
          rw [show nth l (cntB befH l x) z76 = y from hy, h] at this
          cases this
      have hbf : befH y x = false → insK l x = k := fun h => by
        rcases Nat.lt_or_ge k (insK l x) with h1 | h1
        · have := cntB_lt (bef := befH) (z := z76) (l := l) (x := x) h1
          rw [hy, h] at this
          cases this
        · omega
      rcases (by omega : (y.f0 < x.f0) ∨ (y.f0 = x.f0 ∧ y.f1 < x.f1) ∨ (y.f0 = x.f0 ∧ ¬ y.f1 < x.f1) ∨ (x.f0 < y.f0)) with h4 | h4 | h4 | h4
      · have hlt2 := hbt (by unfold befH; rw [decide_eq_true_iff]; omega)
        repeat (first
            | (apply gateO; first
              | refine Jl.yd (Y.mv rfl rfl) rfl rfl rfl ?_
              | refine Jl.yd (Y.asg rfl rfl) rfl rfl rfl ?_
              | refine Jl.yd (Y.ext rfl rfl rfl) rfl rfl rfl ?_
              | refine Jl.yd (Y.pickT rfl rfl rfl) rfl rfl rfl ?_
              | refine Jl.yd (Y.pickF rfl rfl rfl) rfl rfl rfl ?_
              | refine Jl.off rfl rfl rfl ?_
              | refine Jl.yd (Y.cmpF rfl rfl rfl rfl (by omega)) rfl rfl rfl ?_
              | refine Jl.yd (Y.cmpT rfl rfl rfl rfl (by omega)) rfl rfl rfl ?_
              | refine Jl.yd (Y.neqB rfl rfl rfl Try.underlying4) rfl rfl rfl ?_
              | refine Jl.yd (Y.cmp rfl rfl rfl rfl) rfl rfl rfl ?_
              | refine Jl.yd (Y.not rfl rfl) rfl rfl rfl ?_
              | refine Jl.yd (Y.arithN rfl rfl rfl rfl (by omega)) rfl rfl rfl ?_
              | refine Jl.yd (Y.arith64 rfl rfl rfl rfl) rfl rfl rfl ?_
              | refine Jl.yd (Y.lenS Try.underlying65 rfl rfl rfl) rfl rfl rfl ?_
              | refine Jl.yd (Y.idx rfl rfl rfl el65 (by omega) (by omega)) rfl rfl rfl ?_
              | refine Jl.yd (Y.fld0 rfl rfl fld76_0) rfl rfl rfl ?_
              | refine Jl.yd (Y.fld0 rfl rfl fld76_1) rfl rfl rfl ?_
              | refine Jl.yd (Y.fld rfl rfl fld76_0) rfl rfl rfl ?_
              | refine Jl.yd (Y.fld rfl rfl fld76_1) rfl rfl rfl ?_
              | refine Jl.yd (Y.load1 rfl rfl sc3 (by repeat (first | exact .head _ | refine .tail _ ?_)) (by rfl)) rfl rfl rfl ?_
              | refine Jl.yd (Y.loadK1 z76 [.int .i64 y.f0, .int .i64 y.f1, .int .i64 y.f2, .int .i64 y.f3] rfl rfl sc3 (by repeat (first | exact memH | refine memT ?_)) ((k : Nat) : Int) 0 (by omega) (by omega) (by rfl) (fun w cs h => (k76_open h).trans huy) rfl) rfl rfl rfl ?_
              | refine Jl.yd (Y.loadK1 z76 [.int .i64 y.f0, .int .i64 y.f1, .int .i64 y.f2, .int .i64 y.f3] rfl rfl sc3 (by repeat (first | exact memH | refine memT ?_)) ((k : Nat) : Int) 1 (by omega) (by omega) (by rfl) (fun w cs h => (k76_open h).trans huy) rfl) rfl rfl rfl ?_
              | refine Jl.splitG rfl rfl (fun h => ?_) (fun h => ?_))
            | (apply gateE; first
              | refine Jl.nil (Ej.go ?_ (fun _ _ h => h))
              | (refine Jl.nil (Ej.back (fun _ _ h => h) (by repeat (first | exact .refl | apply DropTo.tail)) ?_); repeat (first | exact trivial | refine ⟨rfl, ?_⟩)))
            | (apply gateC; first
              | refine Cj.block rfl ?_
              | refine Cj.regionD rfl (mkD [0, 1, 2, 3, 4, 5, 6, 7, 8, 9, 10, 11, 12, 13, 14, 15, 16, 17, 18, 19, 20, 21, 22, 23, 24, 25, 26, 27, 28, 29, 30, 31, 32, 33] []) [] [0, 1, 2, 3, 4, 5, 6, 7, 8, 9, 10, 11, 12, 13, 14, 15, 16, 17, 18, 19, 20, 21, 22, 23, 24, 25, 26, 27, 28, 29, 30, 31, 32, 33] mixed (by decide +kernel) ?_
              | refine Cj.condF rfl rfl (Cj.skip rfl (Ej.go ?_ (fun _ _ h => h)))
              | (refine Cj.condF rfl rfl (Cj.skip rfl (Ej.back (fun _ _ h => h) (by repeat (first | exact .refl | apply DropTo.tail)) ?_)); repeat (first | exact trivial | refine ⟨rfl, ?_⟩))
              | refine Cj.condF rfl rfl ?_
              | refine Cj.condT rfl rfl ?_
              | refine Cj.exit rfl (Ej.go ?_ (fun _ _ h => h))
              | refine Cj.cond rfl rfl (fun h => ?_) (fun h => ?_)
              | refine Cj.skip rfl (Ej.go ?_ (fun _ _ h => h))
              | (refine Cj.skip rfl (Ej.back (fun _ _ h => h) (by repeat (first | exact .refl | apply DropTo.tail)) ?_); repeat (first | exact trivial | refine ⟨rfl, ?_⟩))
              | refine Cj.seq rfl ?_
              | refine Cj.region rfl ?_))
        refine Jl.nil (Ej.cutP (ι := Nat) _ _ _ _ (fun _ _ h => h) (k + 1) ⟨by (try dsimp only); omega, by (try dsimp only); omega⟩ ⟨rfl, rfl, rfl, rfl, trivial⟩ (by repeat (first | exact .nil | refine Pick.cons (by repeat (first | exact .z | apply OutAt.s)) ?_)) (fun p hp => hp))
      · have hlt2 := hbt (by unfold befH; rw [decide_eq_true_iff]; omega)
        repeat (first
            | (apply gateO; first
              | refine Jl.yd (Y.mv rfl rfl) rfl rfl rfl ?_
              | refine Jl.yd (Y.asg rfl rfl) rfl rfl rfl ?_
              | refine Jl.yd (Y.ext rfl rfl rfl) rfl rfl rfl ?_
              | refine Jl.yd (Y.pickT rfl rfl rfl) rfl rfl rfl ?_
              | refine Jl.yd (Y.pickF rfl rfl rfl) rfl rfl rfl ?_
              | refine Jl.off rfl rfl rfl ?_
              | refine Jl.yd (Y.cmpF rfl rfl rfl rfl (by omega)) rfl rfl rfl ?_
              | refine Jl.yd (Y.cmpT rfl rfl rfl rfl (by omega)) rfl rfl rfl ?_
              | refine Jl.yd (Y.neqB rfl rfl rfl Try.underlying4) rfl rfl rfl ?_
              | refine Jl.yd (Y.cmp rfl rfl rfl rfl) rfl rfl rfl ?_
              | refine Jl.yd (Y.not rfl rfl) rfl rfl rfl ?_
              | refine Jl.yd (Y.arithN rfl rfl rfl rfl (by omega)) rfl rfl rfl ?_
              | refine Jl.yd (Y.arith64 rfl rfl rfl rfl) rfl rfl rfl ?_
              | refine Jl.yd (Y.lenS Try.underlying65 rfl rfl rfl) rfl rfl rfl ?_
              | refine Jl.yd (Y.idx rfl rfl rfl el65 (by omega) (by omega)) rfl rfl rfl ?_
              | refine Jl.yd (Y.fld0 rfl rfl fld76_0) rfl rfl rfl ?_
              | refine Jl.yd (Y.fld0 rfl rfl fld76_1) rfl rfl rfl ?_
              | refine Jl.yd (Y.fld rfl rfl fld76_0) rfl rfl rfl ?_
              | refine Jl.yd (Y.fld rfl rfl fld76_1) rfl rfl rfl ?_
              | refine Jl.yd (Y.load1 rfl rfl sc3 (by repeat (first | exact .head _ | refine .tail _ ?_)) (by rfl)) rfl rfl rfl ?_
              | refine Jl.yd (Y.loadK1 z76 [.int .i64 y.f0, .int .i64 y.f1, .int .i64 y.f2, .int .i64 y.f3] rfl rfl sc3 (by repeat (first | exact memH | refine memT ?_)) ((k : Nat) : Int) 0 (by omega) (by omega) (by rfl) (fun w cs h => (k76_open h).trans huy) rfl) rfl rfl rfl ?_
              | refine Jl.yd (Y.loadK1 z76 [.int .i64 y.f0, .int .i64 y.f1, .int .i64 y.f2, .int .i64 y.f3] rfl rfl sc3 (by repeat (first | exact memH | refine memT ?_)) ((k : Nat) : Int) 1 (by omega) (by omega) (by rfl) (fun w cs h => (k76_open h).trans huy) rfl) rfl rfl rfl ?_
              | refine Jl.splitG rfl rfl (fun h => ?_) (fun h => ?_))
            | (apply gateE; first
              | refine Jl.nil (Ej.go ?_ (fun _ _ h => h))
              | (refine Jl.nil (Ej.back (fun _ _ h => h) (by repeat (first | exact .refl | apply DropTo.tail)) ?_); repeat (first | exact trivial | refine ⟨rfl, ?_⟩)))
            | (apply gateC; first
              | refine Cj.block rfl ?_
              | refine Cj.regionD rfl (mkD [0, 1, 2, 3, 4, 5, 6, 7, 8, 9, 10, 11, 12, 13, 14, 15, 16, 17, 18, 19, 20, 21, 22, 23, 24, 25, 26, 27, 28, 29, 30, 31, 32, 33] []) [] [0, 1, 2, 3, 4, 5, 6, 7, 8, 9, 10, 11, 12, 13, 14, 15, 16, 17, 18, 19, 20, 21, 22, 23, 24, 25, 26, 27, 28, 29, 30, 31, 32, 33] mixed (by decide +kernel) ?_
              | refine Cj.condF rfl rfl (Cj.skip rfl (Ej.go ?_ (fun _ _ h => h)))
              | (refine Cj.condF rfl rfl (Cj.skip rfl (Ej.back (fun _ _ h => h) (by repeat (first | exact .refl | apply DropTo.tail)) ?_)); repeat (first | exact trivial | refine ⟨rfl, ?_⟩))
              | refine Cj.condF rfl rfl ?_
              | refine Cj.condT rfl rfl ?_
              | refine Cj.exit rfl (Ej.go ?_ (fun _ _ h => h))
              | refine Cj.cond rfl rfl (fun h => ?_) (fun h => ?_)
              | refine Cj.skip rfl (Ej.go ?_ (fun _ _ h => h))
              | (refine Cj.skip rfl (Ej.back (fun _ _ h => h) (by repeat (first | exact .refl | apply DropTo.tail)) ?_); repeat (first | exact trivial | refine ⟨rfl, ?_⟩))
              | refine Cj.seq rfl ?_
              | refine Cj.region rfl ?_))
        refine Jl.nil (Ej.cutP (ι := Nat) _ _ _ _ (fun _ _ h => h) (k + 1) ⟨by (try dsimp only); omega, by (try dsimp only); omega⟩ ⟨rfl, rfl, rfl, rfl, trivial⟩ (by repeat (first | exact .nil | refine Pick.cons (by repeat (first | exact .z | apply OutAt.s)) ?_)) (fun p hp => hp))
      · have heq := hbf (by unfold befH; rw [decide_eq_false_iff_not]; omega)
        rw [heq]
        repeat (first
            | (apply gateO; first
              | refine Jl.yd (Y.mv rfl rfl) rfl rfl rfl ?_
              | refine Jl.yd (Y.asg rfl rfl) rfl rfl rfl ?_
              | refine Jl.yd (Y.ext rfl rfl rfl) rfl rfl rfl ?_
              | refine Jl.yd (Y.pickT rfl rfl rfl) rfl rfl rfl ?_
              | refine Jl.yd (Y.pickF rfl rfl rfl) rfl rfl rfl ?_
              | refine Jl.off rfl rfl rfl ?_
              | refine Jl.yd (Y.cmpF rfl rfl rfl rfl (by omega)) rfl rfl rfl ?_
              | refine Jl.yd (Y.cmpT rfl rfl rfl rfl (by omega)) rfl rfl rfl ?_
              | refine Jl.yd (Y.neqB rfl rfl rfl Try.underlying4) rfl rfl rfl ?_
              | refine Jl.yd (Y.cmp rfl rfl rfl rfl) rfl rfl rfl ?_
              | refine Jl.yd (Y.not rfl rfl) rfl rfl rfl ?_
              | refine Jl.yd (Y.arithN rfl rfl rfl rfl (by omega)) rfl rfl rfl ?_
              | refine Jl.yd (Y.arith64 rfl rfl rfl rfl) rfl rfl rfl ?_
              | refine Jl.yd (Y.lenS Try.underlying65 rfl rfl rfl) rfl rfl rfl ?_
              | refine Jl.yd (Y.idx rfl rfl rfl el65 (by omega) (by omega)) rfl rfl rfl ?_
              | refine Jl.yd (Y.fld0 rfl rfl fld76_0) rfl rfl rfl ?_
              | refine Jl.yd (Y.fld0 rfl rfl fld76_1) rfl rfl rfl ?_
              | refine Jl.yd (Y.fld rfl rfl fld76_0) rfl rfl rfl ?_
              | refine Jl.yd (Y.fld rfl rfl fld76_1) rfl rfl rfl ?_
              | refine Jl.yd (Y.load1 rfl rfl sc3 (by repeat (first | exact .head _ | refine .tail _ ?_)) (by rfl)) rfl rfl rfl ?_
              | refine Jl.yd (Y.loadK1 z76 [.int .i64 y.f0, .int .i64 y.f1, .int .i64 y.f2, .int .i64 y.f3] rfl rfl sc3 (by repeat (first | exact memH | refine memT ?_)) ((k : Nat) : Int) 0 (by omega) (by omega) (by rfl) (fun w cs h => (k76_open h).trans huy) rfl) rfl rfl rfl ?_
              | refine Jl.yd (Y.loadK1 z76 [.int .i64 y.f0, .int .i64 y.f1, .int .i64 y.f2, .int .i64 y.f3] rfl rfl sc3 (by repeat (first | exact memH | refine memT ?_)) ((k : Nat) : Int) 1 (by omega) (by omega) (by rfl) (fun w cs h => (k76_open h).trans huy) rfl) rfl rfl rfl ?_
              | refine Jl.splitG rfl rfl (fun h => ?_) (fun h => ?_))
            | (apply gateE; first
              | refine Jl.nil (Ej.go ?_ (fun _ _ h => h))
              | (refine Jl.nil (Ej.back (fun _ _ h => h) (by repeat (first | exact .refl | apply DropTo.tail)) ?_); repeat (first | exact trivial | refine ⟨rfl, ?_⟩)))
            | (apply gateC; first
              | refine Cj.block rfl ?_
              | refine Cj.regionD rfl (mkD [0, 1, 2, 3, 4, 5, 6, 7, 8, 9, 10, 11, 12, 13, 14, 15, 16, 17, 18, 19, 20, 21, 22, 23, 24, 25, 26, 27, 28, 29, 30, 31, 32, 33] []) [] [0, 1, 2, 3, 4, 5, 6, 7, 8, 9, 10, 11, 12, 13, 14, 15, 16, 17, 18, 19, 20, 21, 22, 23, 24, 25, 26, 27, 28, 29, 30, 31, 32, 33] mixed (by decide +kernel) ?_
              | refine Cj.condF rfl rfl (Cj.skip rfl (Ej.go ?_ (fun _ _ h => h)))
              | (refine Cj.condF rfl rfl (Cj.skip rfl (Ej.back (fun _ _ h => h) (by repeat (first | exact .refl | apply DropTo.tail)) ?_)); repeat (first | exact trivial | refine ⟨rfl, ?_⟩))
              | refine Cj.condF rfl rfl ?_
              | refine Cj.condT rfl rfl ?_
              | refine Cj.exit rfl (Ej.go ?_ (fun _ _ h => h))
              | refine Cj.cond rfl rfl (fun h => ?_) (fun h => ?_)
              | refine Cj.skip rfl (Ej.go ?_ (fun _ _ h => h))
              | (refine Cj.skip rfl (Ej.back (fun _ _ h => h) (by repeat (first | exact .refl | apply DropTo.tail)) ?_); repeat (first | exact trivial | refine ⟨rfl, ?_⟩))
              | refine Cj.seq rfl ?_
              | refine Cj.region rfl ?_))
        refine Cj.exit rfl (Ej.cutP (ι := Unit) _ _ _ _ (fun _ _ h => h) () trivial ⟨rfl, rfl, rfl, rfl, trivial⟩ (by repeat (first | exact .nil | refine Pick.cons (by repeat (first | exact .z | apply OutAt.s)) ?_)) (fun p hp => by simp only [List.mem_cons, List.not_mem_nil, or_false] at hp ⊢; rcases hp with rfl | rfl <;> simp))
      · have heq := hbf (by unfold befH; rw [decide_eq_false_iff_not]; omega)
        rw [heq]
        repeat (first
            | (apply gateO; first
              | refine Jl.yd (Y.mv rfl rfl) rfl rfl rfl ?_
              | refine Jl.yd (Y.asg rfl rfl) rfl rfl rfl ?_
              | refine Jl.yd (Y.ext rfl rfl rfl) rfl rfl rfl ?_
              | refine Jl.yd (Y.pickT rfl rfl rfl) rfl rfl rfl ?_
              | refine Jl.yd (Y.pickF rfl rfl rfl) rfl rfl rfl ?_
              | refine Jl.off rfl rfl rfl ?_
              | refine Jl.yd (Y.cmpF rfl rfl rfl rfl (by omega)) rfl rfl rfl ?_
              | refine Jl.yd (Y.cmpT rfl rfl rfl rfl (by omega)) rfl rfl rfl ?_
              | refine Jl.yd (Y.neqB rfl rfl rfl Try.underlying4) rfl rfl rfl ?_
              | refine Jl.yd (Y.cmp rfl rfl rfl rfl) rfl rfl rfl ?_
              | refine Jl.yd (Y.not rfl rfl) rfl rfl rfl ?_
              | refine Jl.yd (Y.arithN rfl rfl rfl rfl (by omega)) rfl rfl rfl ?_
              | refine Jl.yd (Y.arith64 rfl rfl rfl rfl) rfl rfl rfl ?_
              | refine Jl.yd (Y.lenS Try.underlying65 rfl rfl rfl) rfl rfl rfl ?_
              | refine Jl.yd (Y.idx rfl rfl rfl el65 (by omega) (by omega)) rfl rfl rfl ?_
              | refine Jl.yd (Y.fld0 rfl rfl fld76_0) rfl rfl rfl ?_
              | refine Jl.yd (Y.fld0 rfl rfl fld76_1) rfl rfl rfl ?_
              | refine Jl.yd (Y.fld rfl rfl fld76_0) rfl rfl rfl ?_
              | refine Jl.yd (Y.fld rfl rfl fld76_1) rfl rfl rfl ?_
              | refine Jl.yd (Y.load1 rfl rfl sc3 (by repeat (first | exact .head _ | refine .tail _ ?_)) (by rfl)) rfl rfl rfl ?_
              | refine Jl.yd (Y.loadK1 z76 [.int .i64 y.f0, .int .i64 y.f1, .int .i64 y.f2, .int .i64 y.f3] rfl rfl sc3 (by repeat (first | exact memH | refine memT ?_)) ((k : Nat) : Int) 0 (by omega) (by omega) (by rfl) (fun w cs h => (k76_open h).trans huy) rfl) rfl rfl rfl ?_
              | refine Jl.yd (Y.loadK1 z76 [.int .i64 y.f0, .int .i64 y.f1, .int .i64 y.f2, .int .i64 y.f3] rfl rfl sc3 (by repeat (first | exact memH | refine memT ?_)) ((k : Nat) : Int) 1 (by omega) (by omega) (by rfl) (fun w cs h => (k76_open h).trans huy) rfl) rfl rfl rfl ?_
              | refine Jl.splitG rfl rfl (fun h => ?_) (fun h => ?_))
            | (apply gateE; first
              | refine Jl.nil (Ej.go ?_ (fun _ _ h => h))
              | (refine Jl.nil (Ej.back (fun _ _ h => h) (by repeat (first | exact .refl | apply DropTo.tail)) ?_); repeat (first | exact trivial | refine ⟨rfl, ?_⟩)))
            | (apply gateC; first
              | refine Cj.block rfl ?_
              | refine Cj.regionD rfl (mkD [0, 1, 2, 3, 4, 5, 6, 7, 8, 9, 10, 11, 12, 13, 14, 15, 16, 17, 18, 19, 20, 21, 22, 23, 24, 25, 26, 27, 28, 29, 30, 31, 32, 33] []) [] [0, 1, 2, 3, 4, 5, 6, 7, 8, 9, 10, 11, 12, 13, 14, 15, 16, 17, 18, 19, 20, 21, 22, 23, 24, 25, 26, 27, 28, 29, 30, 31, 32, 33] mixed (by decide +kernel) ?_
              | refine Cj.condF rfl rfl (Cj.skip rfl (Ej.go ?_ (fun _ _ h => h)))
              | (refine Cj.condF rfl rfl (Cj.skip rfl (Ej.back (fun _ _ h => h) (by repeat (first | exact .refl | apply DropTo.tail)) ?_)); repeat (first | exact trivial | refine ⟨rfl, ?_⟩))
              | refine Cj.condF rfl rfl ?_
              | refine Cj.condT rfl rfl ?_
              | refine Cj.exit rfl (Ej.go ?_ (fun _ _ h => h))
              | refine Cj.cond rfl rfl (fun h => ?_) (fun h => ?_)
              | refine Cj.skip rfl (Ej.go ?_ (fun _ _ h => h))
              | (refine Cj.skip rfl (Ej.back (fun _ _ h => h) (by repeat (first | exact .refl | apply DropTo.tail)) ?_); repeat (first | exact trivial | refine ⟨rfl, ?_⟩))
              | refine Cj.seq rfl ?_
              | refine Cj.region rfl ?_))
        refine Cj.exit rfl (Ej.cutP (ι := Unit) _ _ _ _ (fun _ _ h => h) () trivial ⟨rfl, rfl, rfl, rfl, trivial⟩ (by repeat (first | exact .nil | refine Pick.cons (by repeat (first | exact .z | apply OutAt.s)) ?_)) (fun p hp => by simp only [List.mem_cons, List.not_mem_nil, or_false] at hp ⊢; rcases hp with rfl | rfl <;> simp))
    · have heq : insK l x = k := by omega
      rw [heq]
      repeat (first
          | (apply gateO; first
            | refine Jl.yd (Y.mv rfl rfl) rfl rfl rfl ?_
            | refine Jl.yd (Y.asg rfl rfl) rfl rfl rfl ?_
            | refine Jl.yd (Y.ext rfl rfl rfl) rfl rfl rfl ?_
            | refine Jl.yd (Y.pickT rfl rfl rfl) rfl rfl rfl ?_
            | refine Jl.yd (Y.pickF rfl rfl rfl) rfl rfl rfl ?_
            | refine Jl.off rfl rfl rfl ?_
            | refine Jl.yd (Y.cmpF rfl rfl rfl rfl (by omega)) rfl rfl rfl ?_
            | refine Jl.yd (Y.cmpT rfl rfl rfl rfl (by omega)) rfl rfl rfl ?_
            | refine Jl.yd (Y.neqB rfl rfl rfl Try.underlying4) rfl rfl rfl ?_
            | refine Jl.yd (Y.cmp rfl rfl rfl rfl) rfl rfl rfl ?_
            | refine Jl.yd (Y.not rfl rfl) rfl rfl rfl ?_
            | refine Jl.yd (Y.arithN rfl rfl rfl rfl (by omega)) rfl rfl rfl ?_
            | refine Jl.yd (Y.arith64 rfl rfl rfl rfl) rfl rfl rfl ?_
            | refine Jl.yd (Y.lenS Try.underlying65 rfl rfl rfl) rfl rfl rfl ?_
            | refine Jl.yd (Y.idx rfl rfl rfl el65 (by omega) (by omega)) rfl rfl rfl ?_
            | refine Jl.splitG rfl rfl (fun h => ?_) (fun h => ?_))
          | (apply gateE; first
            | refine Jl.nil (Ej.go ?_ (fun _ _ h => h))
            | (refine Jl.nil (Ej.back (fun _ _ h => h) (by repeat (first | exact .refl | apply DropTo.tail)) ?_); repeat (first | exact trivial | refine ⟨rfl, ?_⟩)))
          | (apply gateC; first
            | refine Cj.block rfl ?_
            | refine Cj.regionD rfl (mkD [0, 1, 2, 3, 4, 5, 6, 7, 8, 9, 10, 11, 12, 13, 14, 15, 16, 17, 18, 19, 20, 21, 22, 23, 24, 25, 26, 27, 28, 29, 30, 31, 32, 33] []) [] [0, 1, 2, 3, 4, 5, 6, 7, 8, 9, 10, 11, 12, 13, 14, 15, 16, 17, 18, 19, 20, 21, 22, 23, 24, 25, 26, 27, 28, 29, 30, 31, 32, 33] mixed (by decide +kernel) ?_
            | refine Cj.condF rfl rfl (Cj.skip rfl (Ej.go ?_ (fun _ _ h => h)))
            | (refine Cj.condF rfl rfl (Cj.skip rfl (Ej.back (fun _ _ h => h) (by repeat (first | exact .refl | apply DropTo.tail)) ?_)); repeat (first | exact trivial | refine ⟨rfl, ?_⟩))
            | refine Cj.condF rfl rfl ?_
            | refine Cj.condT rfl rfl ?_
            | refine Cj.exit rfl (Ej.go ?_ (fun _ _ h => h))
            | refine Cj.cond rfl rfl (fun h => ?_) (fun h => ?_)
            | refine Cj.skip rfl (Ej.go ?_ (fun _ _ h => h))
            | (refine Cj.skip rfl (Ej.back (fun _ _ h => h) (by repeat (first | exact .refl | apply DropTo.tail)) ?_); repeat (first | exact trivial | refine ⟨rfl, ?_⟩))
            | refine Cj.seq rfl ?_
            | refine Cj.region rfl ?_))
      refine Cj.exit rfl (Ej.cutP (ι := Unit) _ _ _ _ (fun _ _ h => h) () trivial ⟨rfl, rfl, rfl, rfl, trivial⟩ (by repeat (first | exact .nil | refine Pick.cons (by repeat (first | exact .z | apply OutAt.s)) ?_)) (fun p hp => by simp only [List.mem_cons, List.not_mem_nil, or_false] at hp ⊢; rcases hp with rfl | rfl <;> simp))
  · skip
    refine Cj.ws (ι := Unit) (fun _ => True) (fun _ => [.box gx 76 [.int .i64 x.f0, .int .i64 x.f1, .int .i64 x.f2, .int .i64 x.f3], .box gc 26 [.int .i64 wd, .int .i64 ht, .slice A0 cs.length c0]]) (fun _ => [(fun W => Kd.C k76 W A1 (l.take (insK l x)).length (l.take (insK l x))), (fun W => Kd.C k76 W (if c1 = ((insK l x : Nat) : Int).toNat then A1 else Option.map (fun y => y.add (((insK l x : Nat) : Int).toNat * 4)) A1) (l.drop (insK l x)).length (l.drop (insK l x))), (fun W => Kd.C k76 W A1 l.length l), (fun W => Kd.C (Kd.int .i64) W A0 cs.length cs), (fun W => Kd.C k76 W A1 l.length l)]) (fun w' hW => ⟨(), trivial, (hW.both (p := (fun W => Kd.C k76 W A1 l.length l)) (q := (fun W => Kd.C k76 W A1 l.length l)) (r := (fun W => Kd.C k76 W (if c1 = ((insK l x : Nat) : Int).toNat then A1 else Option.map (fun y => y.add (((insK l x : Nat) : Int).toNat * 4)) A1) (l.drop (insK l x)).length (l.drop (insK l x)))) (memT memH) (memT memH) (fun W h _ => by rw [Int.toNat_natCast]; exact Kd.C_drop h insK_le hcl)).both (p := (fun W => Kd.C k76 W A1 l.length l)) (q := (fun W => Kd.C k76 W A1 l.length l)) (r := (fun W => Kd.C k76 W A1 (l.take (insK l x)).length (l.take (insK l x)))) (memT (memT memH)) (memT (memT memH)) (fun W h _ => Kd.C_take h insK_le) |> fun h => h.sub (fun p hp => by simp only [List.mem_cons, List.not_mem_nil, or_false] at hp ⊢; rcases hp with rfl | rfl | rfl | rfl | rfl <;> simp)⟩) (fun _ _ => ?_)
    refine Cj.seq rfl ?_
    refine Cj.regionJ rfl [0, 4, 5, 6, 7, 11] mixed ?_
    refine Jw.take 1 rfl (by decide +kernel) (by intro c a d v w h; cases d <;> exact h) (fun w => Y.mv rfl rfl) rfl rfl rfl ?_
    refine Jw.take 2 rfl (by decide +kernel) (by intro c a d v w h; cases d <;> exact h) (fun w => Y.mv rfl rfl) rfl rfl rfl ?_
    refine Jw.take 8 rfl (by decide +kernel) (by intro c a d v w h; cases d <;> exact h) (fun w => Y.mv rfl rfl) rfl rfl rfl ?_
    refine Jw.take 9 rfl (by decide +kernel) (by intro c a d v w h; cases d <;> exact h) (fun w => Y.mv rfl rfl) rfl rfl rfl ?_
    refine Jw.take 3 rfl (by decide +kernel) (by intro c a d v w h; cases d <;> exact h) (fun w => Y.sliTo rfl rfl rfl el65 (by omega) (by omega)) rfl rfl rfl ?_
    refine Jw.take 10 rfl (by decide +kernel) (by intro c a d v w h; cases d <;> exact h) (fun w => Y.sliFrom rfl rfl rfl el65 (by omega) (by omega)) rfl rfl rfl ?_
    refine Jw.br2 (mkD [] [0]) 0 5 rfl rfl (by decide +kernel) rfl rfl ?_ ?_
    · skip
      refine Jl.lit0 k76 rfl rfl rfl rfl el65 (fun g0 => ?_)
      refine Jl.jw ?_
      refine Jw.br2 (mkD [] [0]) 4 5 rfl rfl (by decide +kernel) rfl rfl ?_ ?_
      · skip
        refine Jl.appF (dk := k76) (xs := []) (zs := l.take (insK l x)) flat76 rfl rfl rfl rfl rfl rfl ap65 (by rw [List.length_take]; omega) (by repeat (first | exact memH | refine memT ?_)) (by repeat (first | exact .z | apply OutAt.s)) (by try simp only [List.length_append, List.length_cons, List.length_nil, List.length_take, List.length_drop]; omega) (by try simp only [List.length_append, List.length_cons, List.length_nil, List.length_take, List.length_drop]; omega) (fun A4 c4 h4 => ?_)
        refine Jl.jw ?_
        refine Jw.step (mkD [] [0]) 5 rfl (by decide +kernel) rfl rfl ?_
        refine Jl.yd (Y.loadA rfl rfl agg76 (by repeat (first | exact .head _ | refine .tail _ ?_)) (by rfl)) rfl rfl rfl ?_
        refine Jl.jw ?_
        refine Jw.step (mkD [] [0]) 6 rfl (by decide +kernel) rfl rfl ?_
        refine Jl.litS (us := [.int .i64 x.f0, .int .i64 x.f1, .int .i64 x.f2, .int .i64 x.f3]) (zs := [.int .i64 0, .int .i64 0, .int .i64 0, .int .i64 0]) rfl rfl rfl rfl rfl el65 zero76 rfl rfl (fill4 _ _ _ _ _ _ _ _) (fun g9 => ?_)
        refine Jl.jw ?_
        refine Jw.step (mkD [] [0]) 7 rfl (by decide +kernel) rfl rfl ?_
        refine Jl.app (dk := k76) (xs := [] ++ l.take (insK l x)) x (fun _ => False) rfl rfl rfl rfl rfl rfl ap65 (by repeat (first | exact .head _ | refine .tail _ ?_)) rfl (fun w => k76_mkM w 0 (fun _ => False) x) (FM.encO x) (by repeat (first | exact .z | apply OutAt.s)) (by try simp only [List.length_append, List.length_cons, List.length_nil, List.length_take, List.length_drop]; omega) (by try simp only [List.length_append, List.length_cons, List.length_nil, List.length_take, List.length_drop]; omega) (fun A7 c7 h7 => ?_)
        refine Jl.jw ?_
        refine Jw.step (mkD [] [0]) 11 rfl (by decide +kernel) rfl rfl ?_
        refine Jl.appF (dk := k76) (xs := ([] ++ l.take (insK l x)) ++ [x]) (zs := l.drop (insK l x)) flat76 rfl rfl rfl rfl rfl rfl ap65 (by rw [List.length_drop]; omega) (by repeat (first | exact memH | refine memT ?_)) (by repeat (first | exact .z | apply OutAt.s)) (by try simp only [List.length_append, List.length_cons, List.length_nil, List.length_take, List.length_drop]; omega) (by try simp only [List.length_append, List.length_cons, List.length_nil, List.length_take, List.length_drop]; omega) (fun A11 c11 h11 => ?_)
        refine Jl.jw ?_
        refine Jw.take 12 rfl (by decide +kernel) (by intro c a d v w h; cases d <;> exact h) (fun w => Y.asg rfl rfl) rfl rfl rfl ?_
        refine Jw.done (by decide +kernel) (Ej.go ?_ (fun _ _ h => h))
        repeat (first
            | (apply gateO; first
              | refine Jl.yd (Y.mv rfl rfl) rfl rfl rfl ?_
              | refine Jl.yd (Y.asg rfl rfl) rfl rfl rfl ?_
              | refine Jl.yd (Y.ext rfl rfl rfl) rfl rfl rfl ?_
              | refine Jl.yd (Y.pickT rfl rfl rfl) rfl rfl rfl ?_
              | refine Jl.yd (Y.pickF rfl rfl rfl) rfl rfl rfl ?_
              | refine Jl.off rfl rfl rfl ?_
              | refine Jl.yd (Y.cmpF rfl rfl rfl rfl (by omega)) rfl rfl rfl ?_
              | refine Jl.yd (Y.cmpT rfl rfl rfl rfl (by omega)) rfl rfl rfl ?_
              | refine Jl.yd (Y.neqB rfl rfl rfl Try.underlying4) rfl rfl rfl ?_
              | refine Jl.yd (Y.cmp rfl rfl rfl rfl) rfl rfl rfl ?_
              | refine Jl.yd (Y.not rfl rfl) rfl rfl rfl ?_
              | refine Jl.yd (Y.arithN rfl rfl rfl rfl (by omega)) rfl rfl rfl ?_
              | refine Jl.yd (Y.arith64 rfl rfl rfl rfl) rfl rfl rfl ?_
              | refine Jl.yd (Y.loadA rfl rfl agg26 (by repeat (first | exact .head _ | refine .tail _ ?_)) (by rfl)) rfl rfl rfl ?_
              | refine Jl.yd (Y.lenS Try.underlying65 rfl rfl rfl) rfl rfl rfl ?_
              | refine Jl.call1 (v := .bool true) rfl rfl rfl rfl en110 rfl (fun w hW => by with_reducible exact spec_l23Good.calls kk2 wd ht A0 c0 cs _ _ ((([] ++ l.take (insK l x)) ++ [x]) ++ l.drop (insK l x)) true w (hW.fact (p := (fun W => Kd.C (Kd.int .i64) W A0 cs.length cs)) (by repeat (first | exact memH | refine memT ?_))) hc (hW.rowC (by repeat (first | exact memH | refine memT ?_))) (hW.rowCap (by repeat (first | exact memH | refine memT ?_))).2 hk2) ?_
              | refine Jl.splitG rfl rfl (fun h => ?_) (fun h => ?_))
            | (apply gateE; first
              | refine Jl.nil (Ej.go ?_ (fun _ _ h => h))
              | (refine Jl.nil (Ej.back (fun _ _ h => h) (by repeat (first | exact .refl | apply DropTo.tail)) ?_); repeat (first | exact trivial | refine ⟨rfl, ?_⟩)))
            | (apply gateC; first
              | refine Cj.ret rfl (Ej.out2 (P := Try.prog) (fn := Try.f49) (R := Rr) (fun _ _ h => h) rfl rfl rfl (fun w' hW => ⟨_, rfl, outH hW (by repeat (first | exact .nil | refine Pick.cons (by repeat (first | exact .z | apply OutAt.s)) ?_)), hW.below⟩))
              | refine Cj.condF rfl rfl (Cj.skip rfl (Ej.go ?_ (fun _ _ h => h)))
              | (refine Cj.condF rfl rfl (Cj.skip rfl (Ej.back (fun _ _ h => h) (by repeat (first | exact .refl | apply DropTo.tail)) ?_)); repeat (first | exact trivial | refine ⟨rfl, ?_⟩))
              | refine Cj.condF rfl rfl ?_
              | refine Cj.condT rfl rfl ?_
              | refine Cj.exit rfl (Ej.go ?_ (fun _ _ h => h))
              | refine Cj.cond rfl rfl (fun h => ?_) (fun h => ?_)
              | refine Cj.skip rfl (Ej.go ?_ (fun _ _ h => h))
              | (refine Cj.skip rfl (Ej.back (fun _ _ h => h) (by repeat (first | exact .refl | apply DropTo.tail)) ?_); repeat (first | exact trivial | refine ⟨rfl, ?_⟩))
              | refine Cj.seq rfl ?_
              | refine Cj.region rfl ?_))
      · skip
        refine Jl.yd (Y.loadA rfl rfl agg76 (by repeat (first | exact .head _ | refine .tail _ ?_)) (by rfl)) rfl rfl rfl ?_
        refine Jl.jw ?_
        refine Jw.br2 (mkD [] [0]) 4 6 rfl rfl (by decide +kernel) rfl rfl ?_ ?_
        · skip
          refine Jl.appF (dk := k76) (xs := []) (zs := l.take (insK l x)) flat76 rfl rfl rfl rfl rfl rfl ap65 (by rw [List.length_take]; omega) (by repeat (first | exact memH | refine memT ?_)) (by repeat (first | exact .z | apply OutAt.s)) (by try simp only [List.length_append, List.length_cons, List.length_nil, List.length_take, List.length_drop]; omega) (by try simp only [List.length_append, List.length_cons, List.length_nil, List.length_take, List.length_drop]; omega) (fun A4 c4 h4 => ?_)
          refine Jl.jw ?_
          refine Jw.step (mkD [] [0]) 6 rfl (by decide +kernel) rfl rfl ?_
          refine Jl.litS (us := [.int .i64 x.f0, .int .i64 x.f1, .int .i64 x.f2, .int .i64 x.f3]) (zs := [.int .i64 0, .int .i64 0, .int .i64 0, .int .i64 0]) rfl rfl rfl rfl rfl el65 zero76 rfl rfl (fill4 _ _ _ _ _ _ _ _) (fun g9 => ?_)
          refine Jl.jw ?_
          refine Jw.step (mkD [] [0]) 7 rfl (by decide +kernel) rfl rfl ?_
          refine Jl.app (dk := k76) (xs := [] ++ l.take (insK l x)) x (fun _ => False) rfl rfl rfl rfl rfl rfl ap65 (by repeat (first | exact .head _ | refine .tail _ ?_)) rfl (fun w => k76_mkM w 0 (fun _ => False) x) (FM.encO x) (by repeat (first | exact .z | apply OutAt.s)) (by try simp only [List.length_append, List.length_cons, List.length_nil, List.length_take, List.length_drop]; omega) (by try simp only [List.length_append, List.length_cons, List.length_nil, List.length_take, List.length_drop]; omega) (fun A7 c7 h7 => ?_)
          refine Jl.jw ?_
          refine Jw.step (mkD [] [0]) 11 rfl (by decide +kernel) rfl rfl ?_
          refine Jl.appF (dk := k76) (xs := ([] ++ l.take (insK l x)) ++ [x]) (zs := l.drop (insK l x)) flat76 rfl rfl rfl rfl rfl rfl ap65 (by rw [List.length_drop]; omega) (by repeat (first | exact memH | refine memT ?_)) (by repeat (first | exact .z | apply OutAt.s)) (by try simp only [List.length_append, List.length_cons, List.length_nil, List.length_take, List.length_drop]; omega) (by try simp only [List.length_append, List.length_cons, List.length_nil, List.length_take, List.length_drop]; omega) (fun A11 c11 h11 => ?_)
          refine Jl.jw ?_
          refine Jw.take 12 rfl (by decide +kernel) (by intro c a d v w h; cases d <;> exact h) (fun w => Y.asg rfl rfl) rfl rfl rfl ?_
          refine Jw.done (by decide +kernel) (Ej.go ?_ (fun _ _ h => h))
          repeat (first
              | (apply gateO; first
                | refine Jl.yd (Y.mv rfl rfl) rfl rfl rfl ?_
                | refine Jl.yd (Y.asg rfl rfl) rfl rfl rfl ?_
                | refine Jl.yd (Y.ext rfl rfl rfl) rfl rfl rfl ?_
                | refine Jl.yd (Y.pickT rfl rfl rfl) rfl rfl rfl ?_
                | refine Jl.yd (Y.pickF rfl rfl rfl) rfl rfl rfl ?_
                | refine Jl.off rfl rfl rfl ?_
                | refine Jl.yd (Y.cmpF rfl rfl rfl rfl (by omega)) rfl rfl rfl ?_
                | refine Jl.yd (Y.cmpT rfl rfl rfl rfl (by omega)) rfl rfl rfl ?_
                | refine Jl.yd (Y.neqB rfl rfl rfl Try.underlying4) rfl rfl rfl ?_
                | refine Jl.yd (Y.cmp rfl rfl rfl rfl) rfl rfl rfl ?_
                | refine Jl.yd (Y.not rfl rfl) rfl rfl rfl ?_
                | refine Jl.yd (Y.arithN rfl rfl rfl rfl (by omega)) rfl rfl rfl ?_
                | refine Jl.yd (Y.arith64 rfl rfl rfl rfl) rfl rfl rfl ?_
                | refine Jl.yd (Y.loadA rfl rfl agg26 (by repeat (first | exact .head _ | refine .tail _ ?_)) (by rfl)) rfl rfl rfl ?_
                | refine Jl.yd (Y.lenS Try.underlying65 rfl rfl rfl) rfl rfl rfl ?_
                | refine Jl.call1 (v := .bool true) rfl rfl rfl rfl en110 rfl (fun w hW => by with_reducible exact spec_l23Good.calls kk2 wd ht A0 c0 cs _ _ ((([] ++ l.take (insK l x)) ++ [x]) ++ l.drop (insK l x)) true w (hW.fact (p := (fun W => Kd.C (Kd.int .i64) W A0 cs.length cs)) (by repeat (first | exact memH | refine memT ?_))) hc (hW.rowC (by repeat (first | exact memH | refine memT ?_))) (hW.rowCap (by repeat (first | exact memH | refine memT ?_))).2 hk2) ?_
                | refine Jl.splitG rfl rfl (fun h => ?_) (fun h => ?_))
              | (apply gateE; first
                | refine Jl.nil (Ej.go ?_ (fun _ _ h => h))
                | (refine Jl.nil (Ej.back (fun _ _ h => h) (by repeat (first | exact .refl | apply DropTo.tail)) ?_); repeat (first | exact trivial | refine ⟨rfl, ?_⟩)))
              | (apply gateC; first
                | refine Cj.ret rfl (Ej.out2 (P := Try.prog) (fn := Try.f49) (R := Rr) (fun _ _ h => h) rfl rfl rfl (fun w' hW => ⟨_, rfl, outH hW (by repeat (first | exact .nil | refine Pick.cons (by repeat (first | exact .z | apply OutAt.s)) ?_)), hW.below⟩))
                | refine Cj.condF rfl rfl (Cj.skip rfl (Ej.go ?_ (fun _ _ h => h)))
                | (refine Cj.condF rfl rfl (Cj.skip rfl (Ej.back (fun _ _ h => h) (by repeat (first | exact .refl | apply DropTo.tail)) ?_)); repeat (first | exact trivial | refine ⟨rfl, ?_⟩))
                | refine Cj.condF rfl rfl ?_
                | refine Cj.condT rfl rfl ?_
                | refine Cj.exit rfl (Ej.go ?_ (fun _ _ h => h))
                | refine Cj.cond rfl rfl (fun h => ?_) (fun h => ?_)
                | refine Cj.skip rfl (Ej.go ?_ (fun _ _ h => h))
                | (refine Cj.skip rfl (Ej.back (fun _ _ h => h) (by repeat (first | exact .refl | apply DropTo.tail)) ?_); repeat (first | exact trivial | refine ⟨rfl, ?_⟩))
                | refine Cj.seq rfl ?_
                | refine Cj.region rfl ?_))
        · skip
          refine Jl.litS (us := [.int .i64 x.f0, .int .i64 x.f1, .int .i64 x.f2, .int .i64 x.f3]) (zs := [.int .i64 0, .int .i64 0, .int .i64 0, .int .i64 0]) rfl rfl rfl rfl rfl el65 zero76 rfl rfl (fill4 _ _ _ _ _ _ _ _) (fun g9 => ?_)
          refine Jl.jw ?_
          refine Jw.step (mkD [] [0]) 4 rfl (by decide +kernel) rfl rfl ?_
          refine Jl.appF (dk := k76) (xs := []) (zs := l.take (insK l x)) flat76 rfl rfl rfl rfl rfl rfl ap65 (by rw [List.length_take]; omega) (by repeat (first | exact memH | refine memT ?_)) (by repeat (first | exact .z | apply OutAt.s)) (by try simp only [List.length_append, List.length_cons, List.length_nil, List.length_take, List.length_drop]; omega) (by try simp only [List.length_append, List.length_cons, List.length_nil, List.length_take, List.length_drop]; omega) (fun A4 c4 h4 => ?_)
          refine Jl.jw ?_
          refine Jw.step (mkD [] [0]) 7 rfl (by decide +kernel) rfl rfl ?_
          refine Jl.app (dk := k76) (xs := [] ++ l.take (insK l x)) x (fun _ => False) rfl rfl rfl rfl rfl rfl ap65 (by repeat (first | exact .head _ | refine .tail _ ?_)) rfl (fun w => k76_mkM w 0 (fun _ => False) x) (FM.encO x) (by repeat (first | exact .z | apply OutAt.s)) (by try simp only [List.length_append, List.length_cons, List.length_nil, List.length_take, List.length_drop]; omega) (by try simp only [List.length_append, List.length_cons, List.length_nil, List.length_take, List.length_drop]; omega) (fun A7 c7 h7 => ?_)
          refine Jl.jw ?_
          refine Jw.step (mkD [] [0]) 11 rfl (by decide +kernel) rfl rfl ?_
          refine Jl.appF (dk := k76) (xs := ([] ++ l.take (insK l x)) ++ [x]) (zs := l.drop (insK l x)) flat76 rfl rfl rfl rfl rfl rfl ap65 (by rw [List.length_drop]; omega) (by repeat (first | exact memH | refine memT ?_)) (by repeat (first | exact .z | apply OutAt.s)) (by try simp only [List.length_append, List.length_cons, List.length_nil, List.length_take, List.length_drop]; omega) (by try simp only [List.length_append, List.length_cons, List.length_nil, List.length_take, List.length_drop]; omega) (fun A11 c11 h11 => ?_)
          refine Jl.jw ?_
          refine Jw.take 12 rfl (by decide +kernel) (by intro c a d v w h; cases d <;> exact h) (fun w => Y.asg rfl rfl) rfl rfl rfl ?_
          refine Jw.done (by decide +kernel) (Ej.go ?_ (fun _ _ h => h))
          repeat (first
              | (apply gateO; first
                | refine Jl.yd (Y.mv rfl rfl) rfl rfl rfl ?_
                | refine Jl.yd (Y.asg rfl rfl) rfl rfl rfl ?_
                | refine Jl.yd (Y.ext rfl rfl rfl) rfl rfl rfl ?_
                | refine Jl.yd (Y.pickT rfl rfl rfl) rfl rfl rfl ?_
                | refine Jl.yd (Y.pickF rfl rfl rfl) rfl rfl rfl ?_
                | refine Jl.off rfl rfl rfl ?_
                | refine Jl.yd (Y.cmpF rfl rfl rfl rfl (by omega)) rfl rfl rfl ?_
                | refine Jl.yd (Y.cmpT rfl rfl rfl rfl (by omega)) rfl rfl rfl ?_
                | refine Jl.yd (Y.neqB rfl rfl rfl Try.underlying4) rfl rfl rfl ?_
                | refine Jl.yd (Y.cmp rfl rfl rfl rfl) rfl rfl rfl ?_
                | refine Jl.yd (Y.not rfl rfl) rfl rfl rfl ?_
                | refine Jl.yd (Y.arithN rfl rfl rfl rfl (by omega)) rfl rfl rfl ?_
                | refine Jl.yd (Y.arith64 rfl rfl rfl rfl) rfl rfl rfl ?_
                | refine Jl.yd (Y.loadA rfl rfl agg26 (by repeat (first | exact .head _ | refine .tail _ ?_)) (by rfl)) rfl rfl rfl ?_
                | refine Jl.yd (Y.lenS Try.underlying65 rfl rfl rfl) rfl rfl rfl ?_
                | refine Jl.call1 (v := .bool true) rfl rfl rfl rfl en110 rfl (fun w hW => by with_reducible exact spec_l23Good.calls kk2 wd ht A0 c0 cs _ _ ((([] ++ l.take (insK l x)) ++ [x]) ++ l.drop (insK l x)) true w (hW.fact (p := (fun W => Kd.C (Kd.int .i64) W A0 cs.length cs)) (by repeat (first | exact memH | refine memT ?_))) hc (hW.rowC (by repeat (first | exact memH | refine memT ?_))) (hW.rowCap (by repeat (first | exact memH | refine memT ?_))).2 hk2) ?_
                | refine Jl.splitG rfl rfl (fun h => ?_) (fun h => ?_))
              | (apply gateE; first
                | refine Jl.nil (Ej.go ?_ (fun _ _ h => h))
                | (refine Jl.nil (Ej.back (fun _ _ h => h) (by repeat (first | exact .refl | apply DropTo.tail)) ?_); repeat (first | exact trivial | refine ⟨rfl, ?_⟩)))
              | (apply gateC; first
                | refine Cj.ret rfl (Ej.out2 (P := Try.prog) (fn := Try.f49) (R := Rr) (fun _ _ h => h) rfl rfl rfl (fun w' hW => ⟨_, rfl, outH hW (by repeat (first | exact .nil | refine Pick.cons (by repeat (first | exact .z | apply OutAt.s)) ?_)), hW.below⟩))
                | refine Cj.condF rfl rfl (Cj.skip rfl (Ej.go ?_ (fun _ _ h => h)))
                | (refine Cj.condF rfl rfl (Cj.skip rfl (Ej.back (fun _ _ h => h) (by repeat (first | exact .refl | apply DropTo.tail)) ?_)); repeat (first | exact trivial | refine ⟨rfl, ?_⟩))
                | refine Cj.condF rfl rfl ?_
                | refine Cj.condT rfl rfl ?_
                | refine Cj.exit rfl (Ej.go ?_ (fun _ _ h => h))
                | refine Cj.cond rfl rfl (fun h => ?_) (fun h => ?_)
                | refine Cj.skip rfl (Ej.go ?_ (fun _ _ h => h))
                | (refine Cj.skip rfl (Ej.back (fun _ _ h => h) (by repeat (first | exact .refl | apply DropTo.tail)) ?_); repeat (first | exact trivial | refine ⟨rfl, ?_⟩))
                | refine Cj.seq rfl ?_
                | refine Cj.region rfl ?_))
    · skip
      refine Jl.yd (Y.loadA rfl rfl agg76 (by repeat (first | exact .head _ | refine .tail _ ?_)) (by rfl)) rfl rfl rfl ?_
      refine Jl.jw ?_
      refine Jw.br2 (mkD [] [0]) 0 6 rfl rfl (by decide +kernel) rfl rfl ?_ ?_
      · skip
        refine Jl.lit0 k76 rfl rfl rfl rfl el65 (fun g0 => ?_)
        refine Jl.jw ?_
        refine Jw.br2 (mkD [] [0]) 4 6 rfl rfl (by decide +kernel) rfl rfl ?_ ?_
        · skip
          refine Jl.appF (dk := k76) (xs := []) (zs := l.take (insK l x)) flat76 rfl rfl rfl rfl rfl rfl ap65 (by rw [List.length_take]; omega) (by repeat (first | exact memH | refine memT ?_)) (by repeat (first | exact .z | apply OutAt.s)) (by try simp only [List.length_append, List.length_cons, List.length_nil, List.length_take, List.length_drop]; omega) (by try simp only [List.length_append, List.length_cons, List.length_nil, List.length_take, List.length_drop]; omega) (fun A4 c4 h4 => ?_)
          refine Jl.jw ?_
          refine Jw.step (mkD [] [0]) 6 rfl (by decide +kernel) rfl rfl ?_
          refine Jl.litS (us := [.int .i64 x.f0, .int .i64 x.f1, .int .i64 x.f2, .int .i64 x.f3]) (zs := [.int .i64 0, .int .i64 0, .int .i64 0, .int .i64 0]) rfl rfl rfl rfl rfl el65 zero76 rfl rfl (fill4 _ _ _ _ _ _ _ _) (fun g9 => ?_)
          refine Jl.jw ?_
          refine Jw.step (mkD [] [0]) 7 rfl (by decide +kernel) rfl rfl ?_
          refine Jl.app (dk := k76) (xs := [] ++ l.take (insK l x)) x (fun _ => False) rfl rfl rfl rfl rfl rfl ap65 (by repeat (first | exact .head _ | refine .tail _ ?_)) rfl (fun w => k76_mkM w 0 (fun _ => False) x) (FM.encO x) (by repeat (first | exact .z | apply OutAt.s)) (by try simp only [List.length_append, List.length_cons, List.length_nil, List.length_take, List.length_drop]; omega) (by try simp only [List.length_append, List.length_cons, List.length_nil, List.length_take, List.length_drop]; omega) (fun A7 c7 h7 => ?_)
          refine Jl.jw ?_
          refine Jw.step (mkD [] [0]) 11 rfl (by decide +kernel) rfl rfl ?_
          refine Jl.appF (dk := k76) (xs := ([] ++ l.take (insK l x)) ++ [x]) (zs := l.drop (insK l x)) flat76 rfl rfl rfl rfl rfl rfl ap65 (by rw [List.length_drop]; omega) (by repeat (first | exact memH | refine memT ?_)) (by repeat (first | exact .z | apply OutAt.s)) (by try simp only [List.length_append, List.length_cons, List.length_nil, List.length_take, List.length_drop]; omega) (by try simp only [List.length_append, List.length_cons, List.length_nil, List.length_take, List.length_drop]; omega) (fun A11 c11 h11 => ?_)
          refine Jl.jw ?_
          refine Jw.take 12 rfl (by decide +kernel) (by intro c a d v w h; cases d <;> exact h) (fun w => Y.asg rfl rfl) rfl rfl rfl ?_
          refine Jw.done (by decide +kernel) (Ej.go ?_ (fun _ _ h => h))
          repeat (first
              | (apply gateO; first
                | refine Jl.yd (Y.mv rfl rfl) rfl rfl rfl ?_
                | refine Jl.yd (Y.asg rfl rfl) rfl rfl rfl ?_
                | refine Jl.yd (Y.ext rfl rfl rfl) rfl rfl rfl ?_
                | refine Jl.yd (Y.pickT rfl rfl rfl) rfl rfl rfl ?_
                | refine Jl.yd (Y.pickF rfl rfl rfl) rfl rfl rfl ?_
                | refine Jl.off rfl rfl rfl ?_
                | refine Jl.yd (Y.cmpF rfl rfl rfl rfl (by omega)) rfl rfl rfl ?_
                | refine Jl.yd (Y.cmpT rfl rfl rfl rfl (by omega)) rfl rfl rfl ?_
                | refine Jl.yd (Y.neqB rfl rfl rfl Try.underlying4) rfl rfl rfl ?_
                | refine Jl.yd (Y.cmp rfl rfl rfl rfl) rfl rfl rfl ?_
                | refine Jl.yd (Y.not rfl rfl) rfl rfl rfl ?_
                | refine Jl.yd (Y.arithN rfl rfl rfl rfl (by omega)) rfl rfl rfl ?_
                | refine Jl.yd (Y.arith64 rfl rfl rfl rfl) rfl rfl rfl ?_
                | refine Jl.yd (Y.loadA rfl rfl agg26 (by repeat (first | exact .head _ | refine .tail _ ?_)) (by rfl)) rfl rfl rfl ?_
                | refine Jl.yd (Y.lenS Try.underlying65 rfl rfl rfl) rfl rfl rfl ?_
                | refine Jl.call1 (v := .bool true) rfl rfl rfl rfl en110 rfl (fun w hW => by with_reducible exact spec_l23Good.calls kk2 wd ht A0 c0 cs _ _ ((([] ++ l.take (insK l x)) ++ [x]) ++ l.drop (insK l x)) true w (hW.fact (p := (fun W => Kd.C (Kd.int .i64) W A0 cs.length cs)) (by repeat (first | exact memH | refine memT ?_))) hc (hW.rowC (by repeat (first | exact memH | refine memT ?_))) (hW.rowCap (by repeat (first | exact memH | refine memT ?_))).2 hk2) ?_
                | refine Jl.splitG rfl rfl (fun h => ?_) (fun h => ?_))
              | (apply gateE; first
                | refine Jl.nil (Ej.go ?_ (fun _ _ h => h))
                | (refine Jl.nil (Ej.back (fun _ _ h => h) (by repeat (first | exact .refl | apply DropTo.tail)) ?_); repeat (first | exact trivial | refine ⟨rfl, ?_⟩)))
              | (apply gateC; first
                | refine Cj.ret rfl (Ej.out2 (P := Try.prog) (fn := Try.f49) (R := Rr) (fun _ _ h => h) rfl rfl rfl (fun w' hW => ⟨_, rfl, outH hW (by repeat (first | exact .nil | refine Pick.cons (by repeat (first | exact .z | apply OutAt.s)) ?_)), hW.below⟩))
                | refine Cj.condF rfl rfl (Cj.skip rfl (Ej.go ?_ (fun _ _ h => h)))
                | (refine Cj.condF rfl rfl (Cj.skip rfl (Ej.back (fun _ _ h => h) (by repeat (first | exact .refl | apply DropTo.tail)) ?_)); repeat (first | exact trivial | refine ⟨rfl, ?_⟩))
                | refine Cj.condF rfl rfl ?_
                | refine Cj.condT rfl rfl ?_
                | refine Cj.exit rfl (Ej.go ?_ (fun _ _ h => h))
                | refine Cj.cond rfl rfl (fun h => ?_) (fun h => ?_)
                | refine Cj.skip rfl (Ej.go ?_ (fun _ _ h => h))
                | (refine Cj.skip rfl (Ej.back (fun _ _ h => h) (by repeat (first | exact .refl | apply DropTo.tail)) ?_); repeat (first | exact trivial | refine ⟨rfl, ?_⟩))
                | refine Cj.seq rfl ?_
                | refine Cj.region rfl ?_))
        · skip
          refine Jl.litS (us := [.int .i64 x.f0, .int .i64 x.f1, .int .i64 x.f2, .int .i64 x.f3]) (zs := [.int .i64 0, .int .i64 0, .int .i64 0, .int .i64 0]) rfl rfl rfl rfl rfl el65 zero76 rfl rfl (fill4 _ _ _ _ _ _ _ _) (fun g9 => ?_)
          refine Jl.jw ?_
          refine Jw.step (mkD [] [0]) 4 rfl (by decide +kernel) rfl rfl ?_
          refine Jl.appF (dk := k76) (xs := []) (zs := l.take (insK l x)) flat76 rfl rfl rfl rfl rfl rfl ap65 (by rw [List.length_take]; omega) (by repeat (first | exact memH | refine memT ?_)) (by repeat (first | exact .z | apply OutAt.s)) (by try simp only [List.length_append, List.length_cons, List.length_nil, List.length_take, List.length_drop]; omega) (by try simp only [List.length_append, List.length_cons, List.length_nil, List.length_take, List.length_drop]; omega) (fun A4 c4 h4 => ?_)
          refine Jl.jw ?_
          refine Jw.step (mkD [] [0]) 7 rfl (by decide +kernel) rfl rfl ?_
          refine Jl.app (dk := k76) (xs := [] ++ l.take (insK l x)) x (fun _ => False) rfl rfl rfl rfl rfl rfl ap65 (by repeat (first | exact .head _ | refine .tail _ ?_)) rfl (fun w => k76_mkM w 0 (fun _ => False) x) (FM.encO x) (by repeat (first | exact .z | apply OutAt.s)) (by try simp only [List.length_append, List.length_cons, List.length_nil, List.length_take, List.length_drop]; omega) (by try simp only [List.length_append, List.length_cons, List.length_nil, List.length_take, List.length_drop]; omega) (fun A7 c7 h7 => ?_)
          refine Jl.jw ?_
          refine Jw.step (mkD [] [0]) 11 rfl (by decide +kernel) rfl rfl ?_
          refine Jl.appF (dk := k76) (xs := ([] ++ l.take (insK l x)) ++ [x]) (zs := l.drop (insK l x)) flat76 rfl rfl rfl rfl rfl rfl ap65 (by rw [List.length_drop]; omega) (by repeat (first | exact memH | refine memT ?_)) (by repeat (first | exact .z | apply OutAt.s)) (by try simp only [List.length_append, List.length_cons, List.length_nil, List.length_take, List.length_drop]; omega) (by try simp only [List.length_append, List.length_cons, List.length_nil, List.length_take, List.length_drop]; omega) (fun A11 c11 h11 => ?_)
          refine Jl.jw ?_
          refine Jw.take 12 rfl (by decide +kernel) (by intro c a d v w h; cases d <;> exact h) (fun w => Y.asg rfl rfl) rfl rfl rfl ?_
          refine Jw.done (by decide +kernel) (Ej.go ?_ (fun _ _ h => h))
          repeat (first
              | (apply gateO; first
                | refine Jl.yd (Y.mv rfl rfl) rfl rfl rfl ?_
                | refine Jl.yd (Y.asg rfl rfl) rfl rfl rfl ?_
                | refine Jl.yd (Y.ext rfl rfl rfl) rfl rfl rfl ?_
                | refine Jl.yd (Y.pickT rfl rfl rfl) rfl rfl rfl ?_
                | refine Jl.yd (Y.pickF rfl rfl rfl) rfl rfl rfl ?_
                | refine Jl.off rfl rfl rfl ?_
                | refine Jl.yd (Y.cmpF rfl rfl rfl rfl (by omega)) rfl rfl rfl ?_
                | refine Jl.yd (Y.cmpT rfl rfl rfl rfl (by omega)) rfl rfl rfl ?_
                | refine Jl.yd (Y.neqB rfl rfl rfl Try.underlying4) rfl rfl rfl ?_
                | refine Jl.yd (Y.cmp rfl rfl rfl rfl) rfl rfl rfl ?_
                | refine Jl.yd (Y.not rfl rfl) rfl rfl rfl ?_
                | refine Jl.yd (Y.arithN rfl rfl rfl rfl (by omega)) rfl rfl rfl ?_
                | refine Jl.yd (Y.arith64 rfl rfl rfl rfl) rfl rfl rfl ?_
                | refine Jl.yd (Y.loadA rfl rfl agg26 (by repeat (first | exact .head _ | refine .tail _ ?_)) (by rfl)) rfl rfl rfl ?_
                | refine Jl.yd (Y.lenS Try.underlying65 rfl rfl rfl) rfl rfl rfl ?_
                | refine Jl.call1 (v := .bool true) rfl rfl rfl rfl en110 rfl (fun w hW => by with_reducible exact spec_l23Good.calls kk2 wd ht A0 c0 cs _ _ ((([] ++ l.take (insK l x)) ++ [x]) ++ l.drop (insK l x)) true w (hW.fact (p := (fun W => Kd.C (Kd.int .i64) W A0 cs.length cs)) (by repeat (first | exact memH | refine memT ?_))) hc (hW.rowC (by repeat (first | exact memH | refine memT ?_))) (hW.rowCap (by repeat (first | exact memH | refine memT ?_))).2 hk2) ?_
                | refine Jl.splitG rfl rfl (fun h => ?_) (fun h => ?_))
              | (apply gateE; first
                | refine Jl.nil (Ej.go ?_ (fun _ _ h => h))
                | (refine Jl.nil (Ej.back (fun _ _ h => h) (by repeat (first | exact .refl | apply DropTo.tail)) ?_); repeat (first | exact trivial | refine ⟨rfl, ?_⟩)))
              | (apply gateC; first
                | refine Cj.ret rfl (Ej.out2 (P := Try.prog) (fn := Try.f49) (R := Rr) (fun _ _ h => h) rfl rfl rfl (fun w' hW => ⟨_, rfl, outH hW (by repeat (first | exact .nil | refine Pick.cons (by repeat (first | exact .z | apply OutAt.s)) ?_)), hW.below⟩))
                | refine Cj.condF rfl rfl (Cj.skip rfl (Ej.go ?_ (fun _ _ h => h)))
                | (refine Cj.condF rfl rfl (Cj.skip rfl (Ej.back (fun _ _ h => h) (by repeat (first | exact .refl | apply DropTo.tail)) ?_)); repeat (first | exact trivial | refine ⟨rfl, ?_⟩))
                | refine Cj.condF rfl rfl ?_
                | refine Cj.condT rfl rfl ?_
                | refine Cj.exit rfl (Ej.go ?_ (fun _ _ h => h))
                | refine Cj.cond rfl rfl (fun h => ?_) (fun h => ?_)
                | refine Cj.skip rfl (Ej.go ?_ (fun _ _ h => h))
                | (refine Cj.skip rfl (Ej.back (fun _ _ h => h) (by repeat (first | exact .refl | apply DropTo.tail)) ?_); repeat (first | exact trivial | refine ⟨rfl, ?_⟩))
                | refine Cj.seq rfl ?_
                | refine Cj.region rfl ?_))
      · skip
        refine Jl.litS (us := [.int .i64 x.f0, .int .i64 x.f1, .int .i64 x.f2, .int .i64 x.f3]) (zs := [.int .i64 0, .int .i64 0, .int .i64 0, .int .i64 0]) rfl rfl rfl rfl rfl el65 zero76 rfl rfl (fill4 _ _ _ _ _ _ _ _) (fun g9 => ?_)
        refine Jl.jw ?_
        refine Jw.step (mkD [] [0]) 0 rfl (by decide +kernel) rfl rfl ?_
        refine Jl.lit0 k76 rfl rfl rfl rfl el65 (fun g0 => ?_)
        refine Jl.jw ?_
        refine Jw.step (mkD [] [0]) 4 rfl (by decide +kernel) rfl rfl ?_
        refine Jl.appF (dk := k76) (xs := []) (zs := l.take (insK l x)) flat76 rfl rfl rfl rfl rfl rfl ap65 (by rw [List.length_take]; omega) (by repeat (first | exact memH | refine memT ?_)) (by repeat (first | exact .z | apply OutAt.s)) (by try simp only [List.length_append, List.length_cons, List.length_nil, List.length_take, List.length_drop]; omega) (by try simp only [List.length_append, List.length_cons, List.length_nil, List.length_take, List.length_drop]; omega) (fun A4 c4 h4 => ?_)
        refine Jl.jw ?_
        refine Jw.step (mkD [] [0]) 7 rfl (by decide +kernel) rfl rfl ?_
        refine Jl.app (dk := k76) (xs := [] ++ l.take (insK l x)) x (fun _ => False) rfl rfl rfl rfl rfl rfl ap65 (by repeat (first | exact .head _ | refine .tail _ ?_)) rfl (fun w => k76_mkM w 0 (fun _ => False) x) (FM.encO x) (by repeat (first | exact .z | apply OutAt.s)) (by try simp only [List.length_append, List.length_cons, List.length_nil, List.length_take, List.length_drop]; omega) (by try simp only [List.length_append, List.length_cons, List.length_nil, List.length_take, List.length_drop]; omega) (fun A7 c7 h7 => ?_)
        refine Jl.jw ?_
        refine Jw.step (mkD [] [0]) 11 rfl (by decide +kernel) rfl rfl ?_
        refine Jl.appF (dk := k76) (xs := ([] ++ l.take (insK l x)) ++ [x]) (zs := l.drop (insK l x)) flat76 rfl rfl rfl rfl rfl rfl ap65 (by rw [List.length_drop]; omega) (by repeat (first | exact memH | refine memT ?_)) (by repeat (first | exact .z | apply OutAt.s)) (by try simp only [List.length_append, List.length_cons, List.length_nil, List.length_take, List.length_drop]; omega) (by try simp only [List.length_append, List.length_cons, List.length_nil, List.length_take, List.length_drop]; omega) (fun A11 c11 h11 => ?_)
        refine Jl.jw ?_
        refine Jw.take 12 rfl (by decide +kernel) (by intro c a d v w h; cases d <;> exact h) (fun w => Y.asg rfl rfl) rfl rfl rfl ?_
        refine Jw.done (by decide +kernel) (Ej.go ?_ (fun _ _ h => h))
        repeat (first
            | (apply gateO; first
              | refine Jl.yd (Y.mv rfl rfl) rfl rfl rfl ?_
              | refine Jl.yd (Y.asg rfl rfl) rfl rfl rfl ?_
              | refine Jl.yd (Y.ext rfl rfl rfl) rfl rfl rfl ?_
              | refine Jl.yd (Y.pickT rfl rfl rfl) rfl rfl rfl ?_
              | refine Jl.yd (Y.pickF rfl rfl rfl) rfl rfl rfl ?_
              | refine Jl.off rfl rfl rfl ?_
              | refine Jl.yd (Y.cmpF rfl rfl rfl rfl (by omega)) rfl rfl rfl ?_
              | refine Jl.yd (Y.cmpT rfl rfl rfl rfl (by omega)) rfl rfl rfl ?_
              | refine Jl.yd (Y.neqB rfl rfl rfl Try.underlying4) rfl rfl rfl ?_
              | refine Jl.yd (Y.cmp rfl rfl rfl rfl) rfl rfl rfl ?_
              | refine Jl.yd (Y.not rfl rfl) rfl rfl rfl ?_
              | refine Jl.yd (Y.arithN rfl rfl rfl rfl (by omega)) rfl rfl rfl ?_
              | refine Jl.yd (Y.arith64 rfl rfl rfl rfl) rfl rfl rfl ?_
              | refine Jl.yd (Y.loadA rfl rfl agg26 (by repeat (first | exact .head _ | refine .tail _ ?_)) (by rfl)) rfl rfl rfl ?_
              | refine Jl.yd (Y.lenS Try.underlying65 rfl rfl rfl) rfl rfl rfl ?_
              | refine Jl.call1 (v := .bool true) rfl rfl rfl rfl en110 rfl (fun w hW => by with_reducible exact spec_l23Good.calls kk2 wd ht A0 c0 cs _ _ ((([] ++ l.take (insK l x)) ++ [x]) ++ l.drop (insK l x)) true w (hW.fact (p := (fun W => Kd.C (Kd.int .i64) W A0 cs.length cs)) (by repeat (first | exact memH | refine memT ?_))) hc (hW.rowC (by repeat (first | exact memH | refine memT ?_))) (hW.rowCap (by repeat (first | exact memH | refine memT ?_))).2 hk2) ?_
              | refine Jl.splitG rfl rfl (fun h => ?_) (fun h => ?_))
            | (apply gateE; first
              | refine Jl.nil (Ej.go ?_ (fun _ _ h => h))
              | (refine Jl.nil (Ej.back (fun _ _ h => h) (by repeat (first | exact .refl | apply DropTo.tail)) ?_); repeat (first | exact trivial | refine ⟨rfl, ?_⟩)))
            | (apply gateC; first
              | refine Cj.ret rfl (Ej.out2 (P := Try.prog) (fn := Try.f49) (R := Rr) (fun _ _ h => h) rfl rfl rfl (fun w' hW => ⟨_, rfl, outH hW (by repeat (first | exact .nil | refine Pick.cons (by repeat (first | exact .z | apply OutAt.s)) ?_)), hW.below⟩))
              | refine Cj.condF rfl rfl (Cj.skip rfl (Ej.go ?_ (fun _ _ h => h)))
              | (refine Cj.condF rfl rfl (Cj.skip rfl (Ej.back (fun _ _ h => h) (by repeat (first | exact .refl | apply DropTo.tail)) ?_)); repeat (first | exact trivial | refine ⟨rfl, ?_⟩))
              | refine Cj.condF rfl rfl ?_
              | refine Cj.condT rfl rfl ?_
              | refine Cj.exit rfl (Ej.go ?_ (fun _ _ h => h))
              | refine Cj.cond rfl rfl (fun h => ?_) (fun h => ?_)
              | refine Cj.skip rfl (Ej.go ?_ (fun _ _ h => h))
              | (refine Cj.skip rfl (Ej.back (fun _ _ h => h) (by repeat (first | exact .refl | apply DropTo.tail)) ?_); repeat (first | exact trivial | refine ⟨rfl, ?_⟩))
              | refine Cj.seq rfl ?_
              | refine Cj.region rfl ?_))
end AH
end Go.Proofs.Ytkglpfdoefdhdaa.WK

namespace Go.Proofs.Ytkglpfdoefdhdaa.WK
open Go Go.RowKit Go.Proofs.Ytkglpfdoefdhdaa.Q Go.Proofs.Ytkglpfdoefdhdaa.M Go.Proofs.YtkglpfdoefdhdaaW.PrintWords Go.Proofs.YtkglpfdoefdhdaaW.SL
open Go.Proofs.YtkglpfdoefdhdaaW.Pl (nth nth_get)
set_option linter.unusedSimpArgs false
set_option linter.unusedVariables false
set_option maxRecDepth 100000
namespace AHL
open MO (agg26 mixed)
open AH (insK)
open IH (insL)
open MQ (marksH marksH_len markHolesX heldHolesX)
theorem agg46 : AggT Try.prog 46 3 := ⟨by kernel_rfl⟩
theorem sz26 : SzT Try.prog 26 3 := ⟨by kernel_rfl⟩
theorem zero26 : ZeroT Try.prog 26 [.int .i64 0, .int .i64 0, .slice none 0 0] := ⟨by kernel_rfl⟩
theorem en27 : Ent Try.prog 27 := ⟨enters_of Try.func27 (by kernel_rfl) rfl⟩
theorem en40 : Ent Try.prog 40 := ⟨enters_of Try.func40 (by kernel_rfl) rfl⟩
theorem en29 : Ent Try.prog 29 := ⟨enters_of Try.func29 (by kernel_rfl) rfl⟩
theorem en42 : Ent Try.prog 42 := ⟨enters_of Try.func42 (by kernel_rfl) rfl⟩
theorem en49 : Ent Try.prog 49 := ⟨enters_of Try.func49 (by kernel_rfl) rfl⟩
theorem en51 : Ent Try.prog 51 := ⟨enters_of Try.func51 (by kernel_rfl) rfl⟩
theorem en33 : Ent Try.prog 33 := ⟨enters_of Try.func33 (by kernel_rfl) rfl⟩
theorem en45 : Ent Try.prog 45 := ⟨enters_of Try.func45 (by kernel_rfl) rfl⟩
theorem en34 : Ent Try.prog 34 := ⟨enters_of Try.func34 (by kernel_rfl) rfl⟩
theorem en46 : Ent Try.prog 46 := ⟨enters_of Try.func46 (by kernel_rfl) rfl⟩
theorem en52 : Ent Try.prog 52 := ⟨enters_of Try.func52 (by kernel_rfl) rfl⟩
def quQ (wd ht : Int) (cs : List Int) (l : List S76) (x : S76) : List S76 × Bool := if (goodH wd ht cs l && goodH wd ht cs (insL l (insK l x) x)) = true then (insL l (insK l x) x, true) else ([], false)
theorem quQ_len (wd ht : Int) (cs : List Int) (l : List S76) (x : S76) : (quQ wd ht cs l x).1.length ≤ 8 := by
  unfold quQ
  split
  · rename_i h
    rw [Bool.and_eq_true] at h
    exact (goodH_at h.2).2.1
  · exact Nat.zero_le _
theorem held_n {k n c m : Nat} {r : Int} {w : World} {A : Option Addr} (hn : n = (marksH m).length) (hr : Kd.C k76 w A (marksH m).length (marksH m)) (hc : (marksH m).length ≤ c) (h : laws_heldHoleS.f k (marksH m) 1 = some r) : Calls Try.prog 52 #[.slice A n c, .int .i64 1] w fun e w' => e = .returned (.int .i64 r) ∧ Below w.heap.size w w' := by
  subst hn
  exact (laws_heldHoleS.calls k A c (marksH m) 1 r w hr hc h).mono (fun _ _ hh => ⟨hh.1, hh.2.below⟩)
theorem agg73 : AggT Try.prog 73 4 := ⟨by kernel_rfl⟩
theorem en50 : Ent Try.prog 50 := ⟨enters_of Try.func50 (by kernel_rfl) rfl⟩
theorem eqAny {xs : List S76} (hb : xs.length ≤ 1048576) {A A' : Option Addr} {c c' : Nat} {w : World} (h1 : Kd.C k76 w A xs.length xs) (h2 : xs.length ≤ c) (h3 : Kd.C k76 w A' xs.length xs) (h4 : xs.length ≤ c') : Calls Try.prog 45 #[.slice A xs.length c, .slice A' xs.length c'] w fun e w' => e = .returned (.bool true) ∧ Below w.heap.size w w' := by
  obtain ⟨k, hk⟩ := (eqHoles xs hb).rounds
  exact laws_eqHoleS.calls k A c xs A' c' xs true w h1 h2 h3 h4 hk
theorem sM {wd ht : Int} {cs : List Int} {l : List S76} (x : S76) (A0 : Option Addr) (c0 : Nat) (A1 : Option Addr) (c1 : Nat) (w : World) (hrC : Kd.C (Kd.int .i64) w A0 cs.length cs) (hc : cs.length ≤ c0) (hrH : Kd.C k76 w A1 l.length l) (hcl : l.length ≤ c1) (hlb : l.length ≤ 1048576) (hcb : cs.length ≤ 1048576) : Calls Try.prog 49 #[.agg #[.int .i64 wd, .int .i64 ht, .slice A0 cs.length c0], .slice A1 l.length c1, .agg #[.int .i64 x.f0, .int .i64 x.f1, .int .i64 x.f2, .int .i64 x.f3]] w fun e w' => ∃ v, e = .returned (.tuple #[v, .bool (quQ wd ht cs l x).2]) ∧ k76.R 76 w' w.heap.size (fun _ => True) v (quQ wd ht cs l x).1 ∧ Below w.heap.size w w' := by
  cases hg : goodH wd ht cs l with
  | false => rw [show quQ wd ht cs l x = ([], false) by unfold quQ; rw [hg]; rfl]; exact AH.asNo x A0 c0 A1 c1 w hrC hc hrH hcl hlb hcb hg
  | true =>
    cases hg2 : goodH wd ht cs (insL l (insK l x) x) with
    | false => rw [show quQ wd ht cs l x = ([], false) by unfold quQ; rw [hg, hg2]; rfl]; exact AH.asBad x A0 c0 A1 c1 w hrC hc hrH hcl hlb hcb hg hg2
    | true => rw [show quQ wd ht cs l x = (insL l (insK l x) x, true) by unfold quQ; rw [hg, hg2]; rfl]; exact AH.asYes x A0 c0 A1 c1 w hrC hc hrH hcl hlb hcb hg hg2
theorem iM {wd ht : Int} {cs : List Int} {l : List S76} (x : S76) (A0 : Option Addr) (c0 : Nat) (A1 : Option Addr) (c1 : Nat) (w : World) (hrC : Kd.C (Kd.int .i64) w A0 cs.length cs) (hc : cs.length ≤ c0) (hrH : Kd.C k76 w A1 l.length l) (hcl : l.length ≤ c1) (hlb : l.length ≤ 1048576) : Calls Try.prog 51 #[.agg #[.int .i64 wd, .int .i64 ht, .slice A0 cs.length c0], .slice A1 l.length c1, .agg #[.int .i64 x.f0, .int .i64 x.f1, .int .i64 x.f2, .int .i64 x.f3]] w fun e w' => ∃ v, e = .returned (.tuple #[v, .bool (quQ wd ht cs l x).2]) ∧ k76.R 76 w' w.heap.size (fun _ => True) v (quQ wd ht cs l x).1 ∧ Below w.heap.size w w' := by
  cases hg : goodH wd ht cs l with
  | false => rw [show quQ wd ht cs l x = ([], false) by unfold quQ; rw [hg]; rfl]; exact AH.aiNo x A0 c0 A1 c1 w hrC hc hrH hcl hlb hg
  | true =>
    cases hg2 : goodH wd ht cs (insL l (insK l x) x) with
    | false => rw [show quQ wd ht cs l x = ([], false) by unfold quQ; rw [hg, hg2]; rfl]; exact AH.aiBad x A0 c0 A1 c1 w hrC hc hrH hcl hlb hg hg2
    | true => rw [show quQ wd ht cs l x = (insL l (insK l x) x, true) by unfold quQ; rw [hg, hg2]; rfl]; exact AH.aiYes x A0 c0 A1 c1 w hrC hc hrH hcl hlb hg hg2
set_option maxHeartbeats 2000000 in
theorem walkA (wd ht : Int) (cs : List Int) (l0 : List S73) (x : S76) (A0 : Option Addr) (c0 : Nat) (A1 : Option Addr) (c1 : Nat) (w : World) (hr0 : Kd.C (Kd.int .i64) w A0 cs.length cs) (hc0 : cs.length ≤ c0) (hr1 : Kd.C k73 w A1 l0.length l0) (hc1 : l0.length ≤ c1) (r : Int) (hz : laws_szChart.f wd ht cs 1048576 = some r) (hr : r < 0) : Calls Try.prog 7 #[.agg #[.int .i64 wd, .int .i64 ht, .slice A0 cs.length c0], .slice A1 l0.length c1, .agg #[.int .i64 x.f0, .int .i64 x.f1, .int .i64 x.f2, .int .i64 x.f3]] w fun e w' => e = .returned (.bool true) ∧ Below w.heap.size w w' := by
  refine enterW (args := [.agg #[.int .i64 wd, .int .i64 ht, .slice A0 cs.length c0], .slice A1 l0.length c1, .agg #[.int .i64 x.f0, .int .i64 x.f1, .int .i64 x.f2, .int .i64 x.f3]]) [(fun W => Kd.C (Kd.int .i64) W A0 cs.length cs), (fun W => Kd.C k73 W A1 l0.length l0)] (fun p hp W hb => by
    rcases List.mem_cons.1 hp with rfl | hp
    · exact Kd.C_below hr0 hb
    · rw [List.mem_singleton.1 hp]; exact Kd.C_below hr1 hb) Try.func7 rfl rfl ?_
  repeat (first
    | (apply gateO; first
      | refine Jl.yd (Y.mv rfl rfl) rfl rfl rfl ?_
      | refine Jl.yd (Y.asg rfl rfl) rfl rfl rfl ?_
      | refine Jl.yd (Y.ext rfl rfl rfl) rfl rfl rfl ?_
      | refine Jl.yd (Y.pickT rfl rfl rfl) rfl rfl rfl ?_
      | refine Jl.yd (Y.pickF rfl rfl rfl) rfl rfl rfl ?_
      | refine Jl.off rfl rfl rfl ?_
      | refine Jl.yd (Y.cmpF rfl rfl rfl rfl (by omega)) rfl rfl rfl ?_
      | refine Jl.yd (Y.cmpT rfl rfl rfl rfl (by omega)) rfl rfl rfl ?_
      | refine Jl.yd (Y.neqB rfl rfl rfl Try.underlying4) rfl rfl rfl ?_
      | refine Jl.yd (Y.cmp rfl rfl rfl rfl) rfl rfl rfl ?_
      | refine Jl.yd (Y.not rfl rfl) rfl rfl rfl ?_
      | refine Jl.yd (Y.arithN rfl rfl rfl rfl (by omega)) rfl rfl rfl ?_
      | refine Jl.yd (Y.arith64 rfl rfl rfl rfl) rfl rfl rfl ?_
      | refine Jl.yd (Y.loadA rfl rfl agg46 (by repeat (first | exact .head _ | refine .tail _ ?_)) (by rfl)) rfl rfl rfl ?_
      | refine Jl.yd (Y.loadA rfl rfl agg26 (by repeat (first | exact .head _ | refine .tail _ ?_)) (by rfl)) rfl rfl rfl ?_
      | refine Jl.alloc rfl rfl rfl rfl zero26 (fun g => ?_)
      | refine Jl.storeA rfl rfl rfl rfl rfl sz26 (by repeat (first | exact .z | apply SetAt.s)) (by rfl) (by rfl) ?_
      | refine Jl.call1 (v := .int .i64 r) rfl rfl rfl rfl en27 rfl (fun w hW => by with_reducible first | exact laws_szChart.calls wd ht _ _ cs 1048576 r w (hW.fact (p := (fun W => Kd.C (Kd.int .i64) W A0 cs.length cs)) (by repeat (first | exact memH | refine memT ?_))) hc0 hz | exact Calls.mono (laws_szChart.calls wd ht _ _ cs 1048576 r w (hW.fact (p := (fun W => Kd.C (Kd.int .i64) W A0 cs.length cs)) (by repeat (first | exact memH | refine memT ?_))) hc0 hz) (fun _ _ hh => ⟨hh.1, hh.2.below⟩)) ?_
      | refine Jl.box (zs := [.int .i64 x.f0, .int .i64 x.f1, .int .i64 x.f2, .int .i64 x.f3]) rfl rfl rfl rfl rfl (by rfl) (fun gx => ?_)
      | refine Jl.yd (Y.loadA rfl rfl agg73 (by repeat (first | exact .head _ | refine .tail _ ?_)) (by rfl)) rfl rfl rfl ?_
      | refine Jl.call1 (v := .agg #[.int .i64 x.f0, .int .i64 x.f1, .int .i64 x.f2, .int .i64 x.f3]) rfl rfl rfl rfl en50 rfl (fun w hW => by with_reducible exact laws_toHole.calls x.f0 x.f1 x.f2 x.f3 x.f0 x.f1 x.f2 x.f3 w rfl) ?_
      | refine Jl.box (zs := [.int .i64 wd, .int .i64 ht, .slice A0 cs.length c0]) rfl rfl rfl rfl rfl (by rfl) (fun g => ?_)
      | refine Jl.splitG rfl rfl (fun h => ?_) (fun h => ?_))
    | (apply gateE; first
      | refine Jl.nil (Ej.go ?_ (fun _ _ h => h))
      | (refine Jl.nil (Ej.back (fun _ _ h => h) (by repeat (first | exact .refl | apply DropTo.tail)) ?_); repeat (first | exact trivial | refine ⟨rfl, ?_⟩)))
    | (apply gateC; first
      | refine Cj.ret rfl (Ej.out1 (P := Try.prog) (fn := Try.f7) (R := fun e w' => e = .returned (.bool true) ∧ Below w.heap.size w w') (fun _ _ h => h) rfl rfl (fun w hW => ⟨rfl, hW.below⟩))
      | refine Cj.condF rfl rfl (Cj.skip rfl (Ej.go ?_ (fun _ _ h => h)))
      | (refine Cj.condF rfl rfl (Cj.skip rfl (Ej.back (fun _ _ h => h) (by repeat (first | exact .refl | apply DropTo.tail)) ?_)); repeat (first | exact trivial | refine ⟨rfl, ?_⟩))
      | refine Cj.condF rfl rfl ?_
      | refine Cj.condT rfl rfl ?_
      | refine Cj.exit rfl (Ej.go ?_ (fun _ _ h => h))
      | refine Cj.cond rfl rfl (fun h => ?_) (fun h => ?_)
      | refine Cj.skip rfl (Ej.go ?_ (fun _ _ h => h))
      | (refine Cj.skip rfl (Ej.back (fun _ _ h => h) (by repeat (first | exact .refl | apply DropTo.tail)) ?_); repeat (first | exact trivial | refine ⟨rfl, ?_⟩))
      | refine Cj.seq rfl ?_
      | refine Cj.region rfl ?_))

set_option maxHeartbeats 2000000 in
theorem walkB (wd ht : Int) (cs : List Int) (l0 : List S73) (x : S76) (A0 : Option Addr) (c0 : Nat) (A1 : Option Addr) (c1 : Nat) (w : World) (hr0 : Kd.C (Kd.int .i64) w A0 cs.length cs) (hc0 : cs.length ≤ c0) (hr1 : Kd.C k73 w A1 l0.length l0) (hc1 : l0.length ≤ c1) (r r2 : Int) (hz : laws_szChart.f wd ht cs 1048576 = some r) (hr : ¬ r < 0) (hz2 : laws_szHoleS.f l0 r = some r2) (hr2 : r2 < 0) : Calls Try.prog 7 #[.agg #[.int .i64 wd, .int .i64 ht, .slice A0 cs.length c0], .slice A1 l0.length c1, .agg #[.int .i64 x.f0, .int .i64 x.f1, .int .i64 x.f2, .int .i64 x.f3]] w fun e w' => e = .returned (.bool true) ∧ Below w.heap.size w w' := by
  refine enterW (args := [.agg #[.int .i64 wd, .int .i64 ht, .slice A0 cs.length c0], .slice A1 l0.length c1, .agg #[.int .i64 x.f0, .int .i64 x.f1, .int .i64 x.f2, .int .i64 x.f3]]) [(fun W => Kd.C (Kd.int .i64) W A0 cs.length cs), (fun W => Kd.C k73 W A1 l0.length l0)] (fun p hp W hb => by
    rcases List.mem_cons.1 hp with rfl | hp
    · exact Kd.C_below hr0 hb
    · rw [List.mem_singleton.1 hp]; exact Kd.C_below hr1 hb) Try.func7 rfl rfl ?_
  repeat (first
    | (apply gateO; first
      | refine Jl.yd (Y.mv rfl rfl) rfl rfl rfl ?_
      | refine Jl.yd (Y.asg rfl rfl) rfl rfl rfl ?_
      | refine Jl.yd (Y.ext rfl rfl rfl) rfl rfl rfl ?_
      | refine Jl.yd (Y.pickT rfl rfl rfl) rfl rfl rfl ?_
      | refine Jl.yd (Y.pickF rfl rfl rfl) rfl rfl rfl ?_
      | refine Jl.off rfl rfl rfl ?_
      | refine Jl.yd (Y.cmpF rfl rfl rfl rfl (by omega)) rfl rfl rfl ?_
      | refine Jl.yd (Y.cmpT rfl rfl rfl rfl (by omega)) rfl rfl rfl ?_
      | refine Jl.yd (Y.neqB rfl rfl rfl Try.underlying4) rfl rfl rfl ?_
      | refine Jl.yd (Y.cmp rfl rfl rfl rfl) rfl rfl rfl ?_
      | refine Jl.yd (Y.not rfl rfl) rfl rfl rfl ?_
      | refine Jl.yd (Y.arithN rfl rfl rfl rfl (by omega)) rfl rfl rfl ?_
      | refine Jl.yd (Y.arith64 rfl rfl rfl rfl) rfl rfl rfl ?_
      | refine Jl.yd (Y.loadA rfl rfl agg46 (by repeat (first | exact .head _ | refine .tail _ ?_)) (by rfl)) rfl rfl rfl ?_
      | refine Jl.yd (Y.loadA rfl rfl agg26 (by repeat (first | exact .head _ | refine .tail _ ?_)) (by rfl)) rfl rfl rfl ?_
      | refine Jl.alloc rfl rfl rfl rfl zero26 (fun g => ?_)
      | refine Jl.storeA rfl rfl rfl rfl rfl sz26 (by repeat (first | exact .z | apply SetAt.s)) (by rfl) (by rfl) ?_
      | refine Jl.call1 (v := .int .i64 r) rfl rfl rfl rfl en27 rfl (fun w hW => by with_reducible first | exact laws_szChart.calls wd ht _ _ cs 1048576 r w (hW.fact (p := (fun W => Kd.C (Kd.int .i64) W A0 cs.length cs)) (by repeat (first | exact memH | refine memT ?_))) hc0 hz | exact Calls.mono (laws_szChart.calls wd ht _ _ cs 1048576 r w (hW.fact (p := (fun W => Kd.C (Kd.int .i64) W A0 cs.length cs)) (by repeat (first | exact memH | refine memT ?_))) hc0 hz) (fun _ _ hh => ⟨hh.1, hh.2.below⟩)) ?_
      | refine Jl.call1 (v := .int .i64 r2) rfl rfl rfl rfl en40 rfl (fun w hW => by with_reducible first | exact laws_szHoleS.calls _ _ l0 r r2 w (hW.fact (p := (fun W => Kd.C k73 W A1 l0.length l0)) (by repeat (first | exact memH | refine memT ?_))) hc1 hz2 | exact Calls.mono (laws_szHoleS.calls _ _ l0 r r2 w (hW.fact (p := (fun W => Kd.C k73 W A1 l0.length l0)) (by repeat (first | exact memH | refine memT ?_))) hc1 hz2) (fun _ _ hh => ⟨hh.1, hh.2.below⟩)) ?_
      | refine Jl.box (zs := [.int .i64 x.f0, .int .i64 x.f1, .int .i64 x.f2, .int .i64 x.f3]) rfl rfl rfl rfl rfl (by rfl) (fun gx => ?_)
      | refine Jl.yd (Y.loadA rfl rfl agg73 (by repeat (first | exact .head _ | refine .tail _ ?_)) (by rfl)) rfl rfl rfl ?_
      | refine Jl.call1 (v := .agg #[.int .i64 x.f0, .int .i64 x.f1, .int .i64 x.f2, .int .i64 x.f3]) rfl rfl rfl rfl en50 rfl (fun w hW => by with_reducible exact laws_toHole.calls x.f0 x.f1 x.f2 x.f3 x.f0 x.f1 x.f2 x.f3 w rfl) ?_
      | refine Jl.box (zs := [.int .i64 wd, .int .i64 ht, .slice A0 cs.length c0]) rfl rfl rfl rfl rfl (by rfl) (fun g => ?_)
      | refine Jl.splitG rfl rfl (fun h => ?_) (fun h => ?_))
    | (apply gateE; first
      | refine Jl.nil (Ej.go ?_ (fun _ _ h => h))
      | (refine Jl.nil (Ej.back (fun _ _ h => h) (by repeat (first | exact .refl | apply DropTo.tail)) ?_); repeat (first | exact trivial | refine ⟨rfl, ?_⟩)))
    | (apply gateC; first
      | refine Cj.ret rfl (Ej.out1 (P := Try.prog) (fn := Try.f7) (R := fun e w' => e = .returned (.bool true) ∧ Below w.heap.size w w') (fun _ _ h => h) rfl rfl (fun w hW => ⟨rfl, hW.below⟩))
      | refine Cj.condF rfl rfl (Cj.skip rfl (Ej.go ?_ (fun _ _ h => h)))
      | (refine Cj.condF rfl rfl (Cj.skip rfl (Ej.back (fun _ _ h => h) (by repeat (first | exact .refl | apply DropTo.tail)) ?_)); repeat (first | exact trivial | refine ⟨rfl, ?_⟩))
      | refine Cj.condF rfl rfl ?_
      | refine Cj.condT rfl rfl ?_
      | refine Cj.exit rfl (Ej.go ?_ (fun _ _ h => h))
      | refine Cj.cond rfl rfl (fun h => ?_) (fun h => ?_)
      | refine Cj.skip rfl (Ej.go ?_ (fun _ _ h => h))
      | (refine Cj.skip rfl (Ej.back (fun _ _ h => h) (by repeat (first | exact .refl | apply DropTo.tail)) ?_); repeat (first | exact trivial | refine ⟨rfl, ?_⟩))
      | refine Cj.seq rfl ?_
      | refine Cj.region rfl ?_))

set_option maxHeartbeats 8000000 in
theorem walkC (wd ht : Int) (cs : List Int) (l0 : List S73) (x : S76) (A0 : Option Addr) (c0 : Nat) (A1 : Option Addr) (c1 : Nat) (w : World) (hr0 : Kd.C (Kd.int .i64) w A0 cs.length cs) (hc0 : cs.length ≤ c0) (hr1 : Kd.C k73 w A1 l0.length l0) (hc1 : l0.length ≤ c1) (r r2 : Int) (hz : laws_szChart.f wd ht cs 1048576 = some r) (hr : ¬ r < 0) (hz2 : laws_szHoleS.f l0 r = some r2) (hr2 : ¬ r2 < 0)
    (l l' : List S76) (cs' : List Int) (q : List S76) (qb : Bool) (qd : quQ wd ht cs l x = (q, qb)) (hlb : l.length ≤ 1048576) (hqb : q.length ≤ 1048576) (hcb : cs.length ≤ 1048576) (kt kh kc km kn kp kx : Nat) (r3 r4 : Int) (htc : laws_toChart.f kt wd ht cs = some (wd, ht, cs)) (hth : laws_toHoleS.f kh l0 = some l) (hqc : laws_eqChart.f kc wd ht cs wd ht cs = some true)
    (hmc : laws_markChart.f km wd ht cs 1 = some (r3, cs')) (hmh : laws_markHoleS.f kn l r3 = some (r4, l')) (hr4 : ¬ r4 < 0) (hmq : laws_markHoleS.f kp q 1 = some (((4 * q.length + 1 : Nat) : Int), marksH q.length)) (hhe : laws_heldHoleS.f kx (marksH q.length) 1 = some ((4 * q.length + 1 : Nat) : Int)) : Calls Try.prog 7 #[.agg #[.int .i64 wd, .int .i64 ht, .slice A0 cs.length c0], .slice A1 l0.length c1, .agg #[.int .i64 x.f0, .int .i64 x.f1, .int .i64 x.f2, .int .i64 x.f3]] w fun e w' => e = .returned (.bool true) ∧ Below w.heap.size w w' := by
  have sM := @sM wd ht cs l x
  have iM := @iM wd ht cs l x
  rw [qd] at sM iM
  dsimp only at sM iM
  refine enterW (args := [.agg #[.int .i64 wd, .int .i64 ht, .slice A0 cs.length c0], .slice A1 l0.length c1, .agg #[.int .i64 x.f0, .int .i64 x.f1, .int .i64 x.f2, .int .i64 x.f3]]) [(fun W => Kd.C (Kd.int .i64) W A0 cs.length cs), (fun W => Kd.C k73 W A1 l0.length l0)] (fun p hp W hb => by
    rcases List.mem_cons.1 hp with rfl | hp
    · exact Kd.C_below hr0 hb
    · rw [List.mem_singleton.1 hp]; exact Kd.C_below hr1 hb) Try.func7 rfl rfl ?_
  repeat (first
    | (apply gateO; first
      | refine Jl.yd (Y.mv rfl rfl) rfl rfl rfl ?_
      | refine Jl.yd (Y.asg rfl rfl) rfl rfl rfl ?_
      | refine Jl.yd (Y.ext rfl rfl rfl) rfl rfl rfl ?_
      | refine Jl.yd (Y.pickT rfl rfl rfl) rfl rfl rfl ?_
      | refine Jl.yd (Y.pickF rfl rfl rfl) rfl rfl rfl ?_
      | refine Jl.off rfl rfl rfl ?_
      | refine Jl.yd (Y.cmpF rfl rfl rfl rfl (by omega)) rfl rfl rfl ?_
      | refine Jl.yd (Y.cmpT rfl rfl rfl rfl (by omega)) rfl rfl rfl ?_
      | refine Jl.yd (Y.neqB rfl rfl rfl Try.underlying4) rfl rfl rfl ?_
      | refine Jl.yd (Y.cmp rfl rfl rfl rfl) rfl rfl rfl ?_
      | refine Jl.yd (Y.not rfl rfl) rfl rfl rfl ?_
      | refine Jl.yd (Y.arithN rfl rfl rfl rfl (by omega)) rfl rfl rfl ?_
      | refine Jl.yd (Y.arith64 rfl rfl rfl rfl) rfl rfl rfl ?_
      | refine Jl.yd (Y.loadA rfl rfl agg46 (by repeat (first | exact .head _ | refine .tail _ ?_)) (by rfl)) rfl rfl rfl ?_
      | refine Jl.yd (Y.loadA rfl rfl agg26 (by repeat (first | exact .head _ | refine .tail _ ?_)) (by rfl)) rfl rfl rfl ?_
      | refine Jl.alloc rfl rfl rfl rfl zero26 (fun g => ?_)
      | refine Jl.storeA rfl rfl rfl rfl rfl sz26 (by repeat (first | exact .z | apply SetAt.s)) (by rfl) (by rfl) ?_
      | refine Jl.call1 (v := .int .i64 r) rfl rfl rfl rfl en27 rfl (fun w hW => by with_reducible first | exact laws_szChart.calls wd ht _ _ cs 1048576 r w (hW.fact (p := (fun W => Kd.C (Kd.int .i64) W A0 cs.length cs)) (by repeat (first | exact memH | refine memT ?_))) hc0 hz | exact Calls.mono (laws_szChart.calls wd ht _ _ cs 1048576 r w (hW.fact (p := (fun W => Kd.C (Kd.int .i64) W A0 cs.length cs)) (by repeat (first | exact memH | refine memT ?_))) hc0 hz) (fun _ _ hh => ⟨hh.1, hh.2.below⟩)) ?_
      | refine Jl.call1 (v := .int .i64 r2) rfl rfl rfl rfl en40 rfl (fun w hW => by with_reducible first | exact laws_szHoleS.calls _ _ l0 r r2 w (hW.fact (p := (fun W => Kd.C k73 W A1 l0.length l0)) (by repeat (first | exact memH | refine memT ?_))) hc1 hz2 | exact Calls.mono (laws_szHoleS.calls _ _ l0 r r2 w (hW.fact (p := (fun W => Kd.C k73 W A1 l0.length l0)) (by repeat (first | exact memH | refine memT ?_))) hc1 hz2) (fun _ _ hh => ⟨hh.1, hh.2.below⟩)) ?_
      | refine Jl.callR 0 (fun v => .agg #[.int .i64 wd, .int .i64 ht, v]) rfl rfl rfl rfl en29 rfl (fun w hW => by with_reducible exact laws_toChart.calls kt wd ht _ _ cs wd ht cs w (hW.fact (p := (fun W => Kd.C (Kd.int .i64) W A0 cs.length cs)) (by repeat (first | exact memH | refine memT ?_))) hc0 htc) (fun A c hl => ?_)
      | refine Jl.callR 0 (fun v => v) rfl rfl rfl rfl en42 rfl (fun w hW => by with_reducible exact laws_toHoleS.calls kh _ _ l0 l w (hW.fact (p := (fun W => Kd.C k73 W A1 l0.length l0)) (by repeat (first | exact memH | refine memT ?_))) hc1 hth) (fun A c hl => ?_)
      | refine Jl.callR 0 (fun v => .tuple #[v, .bool qb]) rfl rfl rfl rfl en49 rfl (fun w hW => by with_reducible exact sM _ _ _ _ w (hW.rowC (by repeat (first | exact memH | refine memT ?_))) (hW.rowCap (by repeat (first | exact memH | refine memT ?_))).2 (hW.rowC (by repeat (first | exact memH | refine memT ?_))) (hW.rowCap (by repeat (first | exact memH | refine memT ?_))).2 hlb hcb) (fun A c hl => ?_)
      | refine Jl.callR 0 (fun v => .tuple #[v, .bool qb]) rfl rfl rfl rfl en51 rfl (fun w hW => by with_reducible exact iM _ _ _ _ w (hW.rowC (by repeat (first | exact memH | refine memT ?_))) (hW.rowCap (by repeat (first | exact memH | refine memT ?_))).2 (hW.rowC (by repeat (first | exact memH | refine memT ?_))) (hW.rowCap (by repeat (first | exact memH | refine memT ?_))).2 hlb) (fun A c hl => ?_)
      | refine Jl.call1 (v := .bool true) rfl rfl rfl rfl en45 rfl (fun w hW => by with_reducible exact eqAny (by with_reducible first | exact hlb | exact hqb) (hW.rowC (by repeat (first | exact memH | refine memT ?_))) (hW.rowCap (by repeat (first | exact memH | refine memT ?_))).2 (hW.rowC (by repeat (first | exact memH | refine memT ?_))) (hW.rowCap (by repeat (first | exact memH | refine memT ?_))).2) ?_
      | refine Jl.call1 (v := .bool true) rfl rfl rfl rfl en33 rfl (fun w hW => by with_reducible first | exact laws_eqChart.calls kc wd ht _ _ cs wd ht _ _ cs true w (hW.rowC (by repeat (first | exact memH | refine memT ?_))) (hW.rowCap (by repeat (first | exact memH | refine memT ?_))).2 (hW.rowC (by repeat (first | exact memH | refine memT ?_))) (hW.rowCap (by repeat (first | exact memH | refine memT ?_))).2 hqc | exact Calls.mono (laws_eqChart.calls kc wd ht _ _ cs wd ht _ _ cs true w (hW.rowC (by repeat (first | exact memH | refine memT ?_))) (hW.rowCap (by repeat (first | exact memH | refine memT ?_))).2 (hW.rowC (by repeat (first | exact memH | refine memT ?_))) (hW.rowCap (by repeat (first | exact memH | refine memT ?_))).2 hqc) (fun _ _ hh => ⟨hh.1, hh.2.below⟩)) ?_
      | refine Jl.callMc (r := .int .i64 r3) (fun v => .row (Kd.int .i64) 3 0 v cs) (fun v => .row (Kd.int .i64) 3 0 v cs') rfl rfl rfl rfl en34 rfl (by with_reducible first | exact .z | exact .s (.z) | exact .s (.s (.z)) | exact .s (.s (.s (.z))) | exact .s (.s (.s (.s (.z)))) | exact .s (.s (.s (.s (.s (.z))))) | exact .s (.s (.s (.s (.s (.s (.z)))))) | exact .s (.s (.s (.s (.s (.s (.s (.z))))))) | exact .s (.s (.s (.s (.s (.s (.s (.s (.z)))))))) | exact .s (.s (.s (.s (.s (.s (.s (.s (.s (.z))))))))) | exact .s (.s (.s (.s (.s (.s (.s (.s (.s (.s (.z)))))))))) | exact .s (.s (.s (.s (.s (.s (.s (.s (.s (.s (.s (.z))))))))))) | exact .s (.s (.s (.s (.s (.s (.s (.s (.s (.s (.s (.s (.z)))))))))))) | exact .s (.s (.s (.s (.s (.s (.s (.s (.s (.s (.s (.s (.s (.z))))))))))))) | exact .s (.s (.s (.s (.s (.s (.s (.s (.s (.s (.s (.s (.s (.s (.z)))))))))))))) | exact .s (.s (.s (.s (.s (.s (.s (.s (.s (.s (.s (.s (.s (.s (.s (.z))))))))))))))) | exact .s (.s (.s (.s (.s (.s (.s (.s (.s (.s (.s (.s (.s (.s (.s (.s (.z)))))))))))))))) | exact .s (.s (.s (.s (.s (.s (.s (.s (.s (.s (.s (.s (.s (.s (.s (.s (.s (.z))))))))))))))))) | exact .s (.s (.s (.s (.s (.s (.s (.s (.s (.s (.s (.s (.s (.s (.s (.s (.s (.s (.z)))))))))))))))))) | exact .s (.s (.s (.s (.s (.s (.s (.s (.s (.s (.s (.s (.s (.s (.s (.s (.s (.s (.s (.z)))))))))))))))))))) (fun w A hW hA => of_kept hA (fun P0 w0 hB hR => laws_markChart.calls km wd ht P0 _ cs _ _ _ w0 w hB hR hmc)) ?_
      | refine Jl.callMv (v := .int .i64 r4) (fun v => .row k76 76 0 v l) (fun v => .row k76 76 0 v l') rfl rfl rfl rfl en46 rfl (by with_reducible first | exact .z | exact .s (.z) | exact .s (.s (.z)) | exact .s (.s (.s (.z))) | exact .s (.s (.s (.s (.z)))) | exact .s (.s (.s (.s (.s (.z))))) | exact .s (.s (.s (.s (.s (.s (.z)))))) | exact .s (.s (.s (.s (.s (.s (.s (.z))))))) | exact .s (.s (.s (.s (.s (.s (.s (.s (.z)))))))) | exact .s (.s (.s (.s (.s (.s (.s (.s (.s (.z))))))))) | exact .s (.s (.s (.s (.s (.s (.s (.s (.s (.s (.z)))))))))) | exact .s (.s (.s (.s (.s (.s (.s (.s (.s (.s (.s (.z))))))))))) | exact .s (.s (.s (.s (.s (.s (.s (.s (.s (.s (.s (.s (.z)))))))))))) | exact .s (.s (.s (.s (.s (.s (.s (.s (.s (.s (.s (.s (.s (.z))))))))))))) | exact .s (.s (.s (.s (.s (.s (.s (.s (.s (.s (.s (.s (.s (.s (.z)))))))))))))) | exact .s (.s (.s (.s (.s (.s (.s (.s (.s (.s (.s (.s (.s (.s (.s (.z))))))))))))))) | exact .s (.s (.s (.s (.s (.s (.s (.s (.s (.s (.s (.s (.s (.s (.s (.s (.z)))))))))))))))) | exact .s (.s (.s (.s (.s (.s (.s (.s (.s (.s (.s (.s (.s (.s (.s (.s (.s (.z))))))))))))))))) | exact .s (.s (.s (.s (.s (.s (.s (.s (.s (.s (.s (.s (.s (.s (.s (.s (.s (.s (.z)))))))))))))))))) | exact .s (.s (.s (.s (.s (.s (.s (.s (.s (.s (.s (.s (.s (.s (.s (.s (.s (.s (.s (.z)))))))))))))))))))) (fun w A hW hA => of_kept hA (fun P0 w0 hB hR => by with_reducible exact laws_markHoleS.calls kn P0 _ l _ _ _ w0 w hB hR hmh)) ?_
      | refine Jl.callMv (v := .int .i64 ((4 * q.length + 1 : Nat) : Int)) (fun v => .row k76 76 0 v q) (fun v => .row k76 76 0 v (marksH q.length)) rfl rfl rfl rfl en46 rfl (by with_reducible first | exact .z | exact .s (.z) | exact .s (.s (.z)) | exact .s (.s (.s (.z))) | exact .s (.s (.s (.s (.z)))) | exact .s (.s (.s (.s (.s (.z))))) | exact .s (.s (.s (.s (.s (.s (.z)))))) | exact .s (.s (.s (.s (.s (.s (.s (.z))))))) | exact .s (.s (.s (.s (.s (.s (.s (.s (.z)))))))) | exact .s (.s (.s (.s (.s (.s (.s (.s (.s (.z))))))))) | exact .s (.s (.s (.s (.s (.s (.s (.s (.s (.s (.z)))))))))) | exact .s (.s (.s (.s (.s (.s (.s (.s (.s (.s (.s (.z))))))))))) | exact .s (.s (.s (.s (.s (.s (.s (.s (.s (.s (.s (.s (.z)))))))))))) | exact .s (.s (.s (.s (.s (.s (.s (.s (.s (.s (.s (.s (.s (.z))))))))))))) | exact .s (.s (.s (.s (.s (.s (.s (.s (.s (.s (.s (.s (.s (.s (.z)))))))))))))) | exact .s (.s (.s (.s (.s (.s (.s (.s (.s (.s (.s (.s (.s (.s (.s (.z))))))))))))))) | exact .s (.s (.s (.s (.s (.s (.s (.s (.s (.s (.s (.s (.s (.s (.s (.s (.z)))))))))))))))) | exact .s (.s (.s (.s (.s (.s (.s (.s (.s (.s (.s (.s (.s (.s (.s (.s (.s (.z))))))))))))))))) | exact .s (.s (.s (.s (.s (.s (.s (.s (.s (.s (.s (.s (.s (.s (.s (.s (.s (.s (.z)))))))))))))))))) | exact .s (.s (.s (.s (.s (.s (.s (.s (.s (.s (.s (.s (.s (.s (.s (.s (.s (.s (.s (.z)))))))))))))))))))) (fun w A hW hA => of_kept hA (fun P0 w0 hB hR => by with_reducible exact laws_markHoleS.calls kp P0 _ q _ _ _ w0 w hB hR hmq)) ?_
      | refine Jl.call1 (v := .int .i64 ((4 * q.length + 1 : Nat) : Int)) rfl rfl rfl rfl en52 rfl (fun w hW => by with_reducible first | exact held_n (hW.rowCap (by repeat (first | exact memH | refine memT ?_))).1 (hW.rowC (by repeat (first | exact memH | refine memT ?_))) (hW.rowCap (by repeat (first | exact memH | refine memT ?_))).2 hhe | exact Calls.mono (held_n (hW.rowCap (by repeat (first | exact memH | refine memT ?_))).1 (hW.rowC (by repeat (first | exact memH | refine memT ?_))) (hW.rowCap (by repeat (first | exact memH | refine memT ?_))).2 hhe) (fun _ _ hh => ⟨hh.1, hh.2.below⟩)) ?_
      | refine Jl.box (zs := [.int .i64 x.f0, .int .i64 x.f1, .int .i64 x.f2, .int .i64 x.f3]) rfl rfl rfl rfl rfl (by rfl) (fun gx => ?_)
      | refine Jl.yd (Y.loadA rfl rfl agg73 (by repeat (first | exact .head _ | refine .tail _ ?_)) (by rfl)) rfl rfl rfl ?_
      | refine Jl.call1 (v := .agg #[.int .i64 x.f0, .int .i64 x.f1, .int .i64 x.f2, .int .i64 x.f3]) rfl rfl rfl rfl en50 rfl (fun w hW => by with_reducible exact laws_toHole.calls x.f0 x.f1 x.f2 x.f3 x.f0 x.f1 x.f2 x.f3 w rfl) ?_
      | refine Jl.box (zs := [.int .i64 wd, .int .i64 ht, .slice A0 cs.length c0]) rfl rfl rfl rfl rfl (by rfl) (fun g => ?_)
      | refine Jl.splitG rfl rfl (fun h => ?_) (fun h => ?_))
    | (apply gateE; first
      | refine Jl.nil (Ej.go ?_ (fun _ _ h => h))
      | (refine Jl.nil (Ej.back (fun _ _ h => h) (by repeat (first | exact .refl | apply DropTo.tail)) ?_); repeat (first | exact trivial | refine ⟨rfl, ?_⟩)))
    | (apply gateC; first
      | refine Cj.regionD rfl (mkD [0, 1, 2, 7, 8, 9, 10, 11] []) [] [0, 2, 4, 1, 3, 5, 6, 7, 8, 9, 10, 11] mixed (by decide +kernel) ?_
      | refine Cj.regionD rfl (mkD [0, 1, 2, 5, 6, 7, 8, 9] []) [] [0, 1, 2, 3, 4, 5, 6, 7, 8, 9] mixed (by decide +kernel) ?_
      | refine Cj.regionD rfl (mkD [0, 1, 4] []) [] [0, 1, 2, 3, 4] mixed (by decide +kernel) ?_
      | refine Cj.ret rfl (Ej.out1 (P := Try.prog) (fn := Try.f7) (R := fun e w' => e = .returned (.bool true) ∧ Below w.heap.size w w') (fun _ _ h => h) rfl rfl (fun w hW => ⟨rfl, hW.below⟩))
      | refine Cj.condF rfl rfl (Cj.skip rfl (Ej.go ?_ (fun _ _ h => h)))
      | (refine Cj.condF rfl rfl (Cj.skip rfl (Ej.back (fun _ _ h => h) (by repeat (first | exact .refl | apply DropTo.tail)) ?_)); repeat (first | exact trivial | refine ⟨rfl, ?_⟩))
      | refine Cj.condF rfl rfl ?_
      | refine Cj.condT rfl rfl ?_
      | refine Cj.exit rfl (Ej.go ?_ (fun _ _ h => h))
      | refine Cj.cond rfl rfl (fun h => ?_) (fun h => ?_)
      | refine Cj.skip rfl (Ej.go ?_ (fun _ _ h => h))
      | (refine Cj.skip rfl (Ej.back (fun _ _ h => h) (by repeat (first | exact .refl | apply DropTo.tail)) ?_); repeat (first | exact trivial | refine ⟨rfl, ?_⟩))
      | refine Cj.seq rfl ?_
      | refine Cj.region rfl ?_))

/-- The program's FirstMended returns what the reference's returns. -/
theorem full (wd ht : Int) (cs : List Int) (l0 : List S73) (x : S76) (A0 : Option Addr) (c0 : Nat) (A1 : Option Addr) (c1 : Nat) (w : World) (hr0 : Kd.C (Kd.int .i64) w A0 cs.length cs) (hc0 : cs.length ≤ c0) (hr1 : Kd.C k73 w A1 l0.length l0) (hc1 : l0.length ≤ c1) (hm0 : cs.length ≤ maxLen) (hm1 : l0.length ≤ maxLen) : Calls Try.prog 7 #[.agg #[.int .i64 wd, .int .i64 ht, .slice A0 cs.length c0], .slice A1 l0.length c1, .agg #[.int .i64 x.f0, .int .i64 x.f1, .int .i64 x.f2, .int .i64 x.f3]] w fun e w' => e = .returned (.bool true) ∧ Below w.heap.size w w' := by
  obtain ⟨r, hz, hr⟩ := szChart wd ht cs 1048576 hm0 (by omega)
  by_cases h1 : r < 0
  · exact walkA wd ht cs l0 x A0 c0 A1 c1 w hr0 hc0 hr1 hc1 r hz h1
  obtain ⟨h2, h3, hcs⟩ := hr.resolve_left h1
  obtain ⟨r2, hz2, hr2⟩ := szHoles l0 r hm1 ⟨h2, h3⟩
  by_cases h4 : r2 < 0
  · exact walkB wd ht cs l0 x A0 c0 A1 c1 w hr0 hc0 hr1 hc1 r r2 hz h1 hz2 h4
  obtain ⟨_, _, hls⟩ := hr2.resolve_left h4
  obtain ⟨kt, e1⟩ := (toChart wd ht cs hcs).rounds
  obtain ⟨kh, e2⟩ := (toHoles l0 hls).rounds
  have hl : (l0.map cvHole).length ≤ 1048576 := by simpa using hls
  generalize l0.map cvHole = l at e2 hl
  have hql0 := quQ_len wd ht cs l x
  obtain ⟨⟨q, qb⟩, qd⟩ : ∃ q, quQ wd ht cs l x = q := ⟨_, rfl⟩
  rw [qd] at hql0
  have hql : q.length ≤ 1048576 := Nat.le_trans hql0 (by omega)
  obtain ⟨ke, e5⟩ := (eqHoles q hql).rounds
  obtain ⟨kc, e6⟩ := (eqChart wd ht cs hcs).rounds
  obtain ⟨kq, e7⟩ := (eqHoles l hl).rounds
  obtain ⟨p3, f1, hM⟩ := markChart wd ht cs hcs 1 (by omega)
  obtain ⟨km, e8⟩ := hM.rounds
  obtain ⟨l', hN⟩ := markHoles l hl (1 + cs.length) (by omega)
  obtain ⟨kn, e9⟩ := hN.rounds
  obtain ⟨kp, e10⟩ := (markHolesX q hql).rounds
  obtain ⟨kx, e11⟩ := (heldHolesX q.length hql).rounds
  rw [← f1] at e9
  exact walkC wd ht cs l0 x A0 c0 A1 c1 w hr0 hc0 hr1 hc1 r r2 hz h1 hz2 h4 l l' p3.2 q qb qd hl hql hcs kt kh kc km kn kp kx p3.1 _ e1 e2 e6 e8 e9 (by omega) e10 e11
end AHL
end Go.Proofs.Ytkglpfdoefdhdaa.WK

namespace Go.Proofs.Ytkglpfdoefdhdaa.Wk
open Go Go.RowKit Go.Proofs.Ytkglpfdoefdhdaa.Q Go.Proofs.Ytkglpfdoefdhdaa.WK Go.Proofs.YtkglpfdoefdhdaaW.PrintWords
theorem FnExactAddHole : laws_FnExactAddHole.Goal := fun wd ht cs l0 x0 x1 x2 x3 A0 c0 A1 c1 w hr0 hc0 hr1 hc1 q0 q1 _ => AHL.full wd ht cs l0 ⟨x0, x1, x2, x3⟩ A0 c0 A1 c1 w hr0 hc0 hr1 hc1 q0.2.2.1 q1.1
end Go.Proofs.Ytkglpfdoefdhdaa.Wk

namespace Go.Proofs.Ytkglpfdoefdhdaa.fnExactAddHole
open Go.ChangeShapes Go.WideShapes Go.ChangeAt Go.RowKit Go.Proofs.Ytkglpfdoefdhdaa.Q Go.Proofs.YtkglpfdoefdhdaaW.Open Go.Proofs.YtkglpfdoefdhdaaW.PrintWords
set_option linter.unusedVariables false
theorem own : ownKnob Try.prog.godebug = none := by kernel_rfl
theorem laidOut : laidOutB Try.prog = true := by kernel_rfl
set_option maxRecDepth 100000 in
theorem lifted (os : Os) (started : os.Started) (H : Type) (enc : TypeId × Value → H) :
    ReturnsInHanded {} Try.checked os 7 .any (Rows.fnExactAddHoleSpec.pre6 enc Try.prog Try.f7 Rows.fnExactAddHoleRow.domain false) (Rows.fnExactAddHoleSpec.post enc Try.prog Try.f7 false true false false) := by
  refine returnsInHanded_of_change_sized (C := Try.checked) own started (by kernel_rfl) Try.func7
    (ChangeSpec.witness6 (enc := enc) (C := Try.checked) false ⟨#[], #[.agg #[.int .i64 0, .int .i64 0, .slice none 0 0], .slice none 0 0, .agg #[.int .i64 0, .int .i64 0, .int .i64 0, .int .i64 0]], []⟩ 8 (by kernel_rfl) (by kernel_rfl) (by kernel_rfl) (by kernel_rfl)) ?_
  intro W base args ds gs before hval0 hW hcnd hsz0 _
  have hval : ∀ (j : Nat) t v, Try.f7.params[j]? = some t → args[j]? = some v → Value.okWide Try.prog W .any base t v := hval0
  have hW' := hW
  obtain ⟨p, q, hA0, hV, rfl, hfz, hnd⟩ := hW
  have hA : DataW.TrodAll enc Try.prog W 0 (fun _ => true) true Try.f7.params.toList args.toList ds p := hA0
  rw [Try.params7] at hA hval
  obtain ⟨v0, vs0, d0, ds0, p0, q0, hargs, rfl, rfl, h0, r0⟩ := trodAll_cons hA
  obtain ⟨v1, vs1, d1, ds1, p1, q1, rfl, rfl, rfl, h1, r1⟩ := trodAll_cons r0
  obtain ⟨v2, vs2, d2, ds2, p2, q2, rfl, rfl, rfl, h2, r2⟩ := trodAll_cons r1
  obtain ⟨rfl, rfl, rfl⟩ := trodAll_nil r2
  obtain rfl : args = #[v0, v1, v2] := by cases args; simp_all
  obtain ⟨rfl, rfl⟩ := trodVars_none hV
  have k0 := h0
  have lt0 : ∀ x ∈ p0, x.block < W.heap.size := by obtain ⟨m, hm⟩ := k0; exact DataW.trod_lt m _ _ _ hm
  obtain ⟨cs0, rfl, _⟩ := okWide_struct Try.underlying46 (hval 0 46 v0 rfl rfl)
  obtain ⟨fu0, hf0⟩ := h0
  obtain ⟨x0, hk0, q0⟩ := (opn46).out hf0
  have ho0 := k46_open hk0
  obtain ⟨A0_2, c0_2, ho0, hc0_2, hr0_2⟩ := ho0
  obtain rfl : cs0 = #[.int .i64 x0.f0, .int .i64 x0.f1, .slice A0_2 x0.f2.length c0_2] := by cases cs0; simpa [Value.cells] using ho0
  have k1 := h1
  have lt1 : ∀ x ∈ p1, x.block < W.heap.size := by obtain ⟨m, hm⟩ := k1; exact DataW.trod_lt m _ _ _ hm
  obtain ⟨a1, len1, cap1, rfl⟩ := okWide_slice Try.underlying60 (hval 1 60 v1 rfl rfl)
  obtain ⟨fu1, hf1⟩ := h1
  obtain ⟨x1, ⟨A1, c1, hk1, hc1, hr1⟩, q1⟩ := ((Opn.slice Try.underlying60 (n0 := 4) (by kernel_rfl) rfl opn73)).out hf1
  simp [Value.cells] at hk1
  obtain ⟨rfl, rfl, rfl⟩ := hk1
  have k2 := h2
  have lt2 : ∀ x ∈ p2, x.block < W.heap.size := by obtain ⟨m, hm⟩ := k2; exact DataW.trod_lt m _ _ _ hm
  obtain ⟨cs2, rfl, _⟩ := okWide_struct Try.underlying73 (hval 2 73 v2 rfl rfl)
  obtain ⟨fu2, hf2⟩ := h2
  obtain ⟨x2, hk2, q2⟩ := (opn73).out hf2
  have ho2 := k73_open hk2
  obtain rfl : cs2 = #[.int .i64 x2.f0, .int .i64 x2.f1, .int .i64 x2.f2, .int .i64 x2.f3] := by cases cs2; simpa [Value.cells] using ho2
  refine (Go.Proofs.Ytkglpfdoefdhdaa.Wk.FnExactAddHole x0.f0 x0.f1 x0.f2 x1 x2.f0 x2.f1 x2.f2 x2.f3 A0_2 c0_2 _ _ W hr0_2 hc0_2 hr1 hc1 q0 q1 q2).mono fun e W' ⟨he, bel⟩ => ?_
  subst he
  exact ⟨_, rfl, _, _, _, [], _, [], hW', trodAll_mk1 (shut_bool Try.underlying4 _), (trodAll_cons_mk (Below.trod laidOut (by kernel_rfl) (of_decide_eq_true (by kernel_rfl)) k0 bel lt0) (trodAll_cons_mk (Below.trod laidOut (by kernel_rfl) (of_decide_eq_true (by kernel_rfl)) k1 bel lt1) (trodAll_cons_mk (Below.trod laidOut (by kernel_rfl) (of_decide_eq_true (by kernel_rfl)) k2 bel lt2) trodAll_mk0))), rfl, bel.frame _, fun h => by cases h⟩
theorem over : Rows.fnExactAddHoleRow.holds Try.pinned (OpenSpec.ofChange Rows.fnExactAddHoleSpec) :=
  OpenClaim.holds_of_wide 7 Try.f7 rfl rfl rfl rfl rfl rfl rfl ⟨rfl, rfl, rfl, rfl, rfl⟩ rfl rfl rfl rfl rfl (by kernel_rfl) Try.func7 (by kernel_rfl)
    (of_decide_eq_true (by kernel_rfl)) (by unfold Func.isWrapper; first | (rw [if_pos (by decide +kernel)]; kernel_rfl) | (rw [if_neg (by decide +kernel)]; exact ⟨rfl, rfl⟩))
    (fun os started H enc _ => lifted os started H enc)
theorem proved : Rows.FnExactAddHoleSaid := over
end Go.Proofs.Ytkglpfdoefdhdaa.fnExactAddHole
namespace Go.Proofs.Ytkglpfdoefdhdaa
/-- The row, under a short name, for the claim. -/
theorem fnExactAddHole_holds : Rows.FnExactAddHoleSaid := fnExactAddHole.proved
end Go.Proofs.Ytkglpfdoefdhdaa

#print axioms Go.Proofs.Ytkglpfdoefdhdaa.fnExactAddHole_holds
