/- For every schools and piece: the program's possible schools are the reference's, and nothing handed in is written. -/
import Derived.KernelRfl
import Derived.Test.YtblihmohgfmpgaaRows
import Derived.WalkKit
import Derived.ProofKit
import Derived.OpenShut
import Derived.ShutString
import Derived.ChangeOld
import Derived.Below
import Derived.SizedLaws
import Derived.Carry
import Derived.ChangeVars
import Derived.Test.YtblihmohgfmpgaaZFnExactPossibleSchools6
namespace Go.Proofs.Ytblihmohgfmpgaa.WK
open Go Go.RowKit Go.Proofs.Ytblihmohgfmpgaa.Q Go.Proofs.Ytblihmohgfmpgaa.M Go.Proofs.YtblihmohgfmpgaaW.PrintWords Go.Proofs.YtblihmohgfmpgaaW.Pl Go.Proofs.YtblihmohgfmpgaaW.SL
set_option linter.unusedSimpArgs false
set_option linter.unusedVariables false
set_option maxRecDepth 100000
theorem sz3 : SzT Try.prog 3 1 := ⟨by kernel_rfl⟩
theorem sc3 : ScT Try.prog 3 := ⟨by kernel_rfl⟩
theorem sc29 : ScT Try.prog 29 := ⟨by kernel_rfl⟩
theorem fld69_0 : FldT Try.prog 69 0 0 := ⟨by kernel_rfl⟩
theorem fld69_1 : FldT Try.prog 69 1 1 := ⟨by kernel_rfl⟩
theorem fld69_2 : FldT Try.prog 69 2 2 := ⟨by kernel_rfl⟩
theorem fld69_3 : FldT Try.prog 69 3 3 := ⟨by kernel_rfl⟩
theorem el25 : ElT Try.prog 25 69 4 := ⟨by kernel_rfl⟩
theorem en28 : Ent Try.prog 28 := ⟨enters_of Try.func28 (by kernel_rfl) rfl⟩
/-- What the marks of the first i schools make of k. -/
def kA (xs : List S69) (k0 : Int) : Nat → Int
  | 0 => k0
  | i + 1 => kA xs k0 i + ((nth xs i z69).f1.length : Int) + 3
theorem kA_b (xs : List S69) (k0 : Int) (hm : ∀ i, i < xs.length → (nth xs i z69).f1.length ≤ 1048576) : ∀ i, i ≤ xs.length → k0 ≤ kA xs k0 i ∧ kA xs k0 i ≤ k0 + 1048579 * (i : Int)
  | 0, _ => by simp [kA]
  | i + 1, h => by
    have := kA_b xs k0 hm i (by omega)
    have := hm i (by omega)
    simp only [kA]
    omega
theorem open69 (w : World) (b : Nat) (x : S69) (ok) (cs : List Value) (h : k69.M w b ok x cs) : ∃ u, cs = [.int .i64 x.f0, u, .int .i64 x.f2, .int .i64 x.f3] ∧ (Kd.int .i64).R 3 w b ok u x.f1 := k69_openM h
set_option maxHeartbeats 4000000 in
/-- All numbers of the schools are marked. -/
theorem markSchoolS_run (w : World) (S : Nat → Prop) (g c : Nat) (xs : List S69) (k0 : Int) (hk : 0 ≤ k0 ∧ k0 ≤ 1099511627776) (hn : xs.length ≤ 1048576) (hm : ∀ i, i < xs.length → (nth xs i z69).f1.length ≤ 1048576)
    (hS : (Item.rowS k69 69 0 (.slice (some ⟨g, 0, none⟩) xs.length c) xs).p w S) : Calls Try.prog 26 #[.slice (some ⟨g, 0, none⟩) xs.length c, .int .i64 k0] w fun e w' => e = .returned (.int .i64 (kA xs k0 xs.length)) ∧ ∃ S', (Item.any Dead).p w' S' ∧ (∀ k, S' k → k < w.heap.size → S k) ∧ Aft S w w' := by
  have hkA := kA_b xs k0 hm
  refine enterS (args := [.slice (some ⟨g, 0, none⟩) xs.length c, .int .i64 k0]) [.rowS k69 69 0 (.slice (some ⟨g, 0, none⟩) xs.length c) xs] [] (Own.single hS) (fun p hp => by cases hp) Try.func26 rfl rfl ?_
  repeat (first
    | refine Jl.yd (Y.mv rfl rfl) rfl rfl rfl ?_
    | refine Jl.yd (Y.asg rfl rfl) rfl rfl rfl ?_
    | refine Jl.yd (Y.ext rfl rfl rfl) rfl rfl rfl ?_
    | refine Jl.yd (Y.pickT rfl rfl rfl) rfl rfl rfl ?_
    | refine Jl.yd (Y.pickF rfl rfl rfl) rfl rfl rfl ?_
    | refine Jl.off rfl rfl rfl ?_
    | refine Jl.yd (Y.cmpF rfl rfl rfl rfl (by omega)) rfl rfl rfl ?_
    | refine Jl.yd (Y.cmpT rfl rfl rfl rfl (by omega)) rfl rfl rfl ?_
    | refine Jl.yd (Y.neqB rfl rfl rfl Try.underlying4) rfl rfl rfl ?_
    | refine Jl.yd (Y.cmp rfl rfl rfl rfl) rfl rfl rfl ?_
    | refine Jl.yd (Y.not rfl rfl) rfl rfl rfl ?_
    | refine Jl.yd (Y.arithN rfl rfl rfl rfl (by omega)) rfl rfl rfl ?_
    | refine Jl.yd (Y.arith64 rfl rfl rfl rfl) rfl rfl rfl ?_
    | refine Jl.splitG rfl rfl (fun h => ?_) (fun h => ?_)
    | refine Jl.nil (Ej.go ?_ (fun _ _ h => h))
    | (refine Jl.nil (Ej.back (fun _ _ h => h) (by repeat (first | exact .refl | apply DropTo.tail)) ?_); repeat (first | exact trivial | refine ⟨rfl, ?_⟩))
    | refine Cj.condF rfl rfl (Cj.skip rfl (Ej.go ?_ (fun _ _ h => h)))
    | (refine Cj.condF rfl rfl (Cj.skip rfl (Ej.back (fun _ _ h => h) (by repeat (first | exact .refl | apply DropTo.tail)) ?_)); repeat (first | exact trivial | refine ⟨rfl, ?_⟩))
    | refine Cj.condF rfl rfl ?_
    | refine Cj.condT rfl rfl ?_
    | refine Cj.exit rfl (Ej.go ?_ (fun _ _ h => h))
    | refine Cj.cond rfl rfl (fun h => ?_) (fun h => ?_)
    | refine Cj.skip rfl (Ej.go ?_ (fun _ _ h => h))
    | (refine Cj.skip rfl (Ej.back (fun _ _ h => h) (by repeat (first | exact .refl | apply DropTo.tail)) ?_); repeat (first | exact trivial | refine ⟨rfl, ?_⟩))
    | refine Cj.seq rfl ?_
    | refine Cj.region rfl ?_)
  refine Cj.block rfl ?_
  refine Cj.loop (ι := Nat × List S69) (fun p => p.1 ≤ xs.length ∧ p.2.length = xs.length ∧ ∀ j, p.1 ≤ j → j < xs.length → (nth p.2 j z69).f1 = (nth xs j z69).f1)
    (fun p => [(0, .slice (some ⟨g, 0, none⟩) xs.length c), (1, .int .i64 (kA xs k0 p.1)), (5, .int .i64 (p.1 : Int)), (4, .int .i64 0)]) (fun p => [.rowS k69 69 0 (.slice (some ⟨g, 0, none⟩) xs.length c) p.2]) (fun _ => []) (fun p => xs.length - p.1) rfl (0, xs) ⟨Nat.zero_le _, rfl, fun _ _ _ => rfl⟩ ⟨rfl, rfl, rfl, rfl, trivial⟩ rfl (fun p hp => hp) (fun p hp => ?_)
  obtain ⟨i, ys⟩ := p
  obtain ⟨h1, h2, h3⟩ := hp
  dsimp only at h1 h2 h3 ⊢
  have hki := hkA i h1
  generalize hki' : kA xs k0 i = k at hki
  by_cases hlt : i < xs.length
  · have hlen := h3 i (Nat.le_refl _) hlt
    have hmi := hm i hlt
    have hkn : kA xs k0 (i + 1) = k + ((nth xs i z69).f1.length : Int) + 3 := by simp only [kA, hki']
    repeat (first
    | refine Jl.yd (Y.mv rfl rfl) rfl rfl rfl ?_
    | refine Jl.yd (Y.asg rfl rfl) rfl rfl rfl ?_
    | refine Jl.yd (Y.ext rfl rfl rfl) rfl rfl rfl ?_
    | refine Jl.yd (Y.pickT rfl rfl rfl) rfl rfl rfl ?_
    | refine Jl.yd (Y.pickF rfl rfl rfl) rfl rfl rfl ?_
    | refine Jl.off rfl rfl rfl ?_
    | refine Jl.yd (Y.cmpF rfl rfl rfl rfl (by omega)) rfl rfl rfl ?_
    | refine Jl.yd (Y.cmpT rfl rfl rfl rfl (by omega)) rfl rfl rfl ?_
    | refine Jl.yd (Y.neqB rfl rfl rfl Try.underlying4) rfl rfl rfl ?_
    | refine Jl.yd (Y.cmp rfl rfl rfl rfl) rfl rfl rfl ?_
    | refine Jl.yd (Y.not rfl rfl) rfl rfl rfl ?_
    | refine Jl.yd (Y.arithN rfl rfl rfl rfl (by omega)) rfl rfl rfl ?_
    | refine Jl.yd (Y.arith64 rfl rfl rfl rfl) rfl rfl rfl ?_
    | refine Jl.yd (Y.lenS Try.underlying25 rfl rfl rfl) rfl rfl rfl ?_
    | refine Jl.splitG rfl rfl (fun h => ?_) (fun h => ?_)
    | refine Jl.nil (Ej.go ?_ (fun _ _ h => h))
    | (refine Jl.nil (Ej.back (fun _ _ h => h) (by repeat (first | exact .refl | apply DropTo.tail)) ?_); repeat (first | exact trivial | refine ⟨rfl, ?_⟩))
    | refine Cj.condF rfl rfl (Cj.skip rfl (Ej.go ?_ (fun _ _ h => h)))
    | (refine Cj.condF rfl rfl (Cj.skip rfl (Ej.back (fun _ _ h => h) (by repeat (first | exact .refl | apply DropTo.tail)) ?_)); repeat (first | exact trivial | refine ⟨rfl, ?_⟩))
    | refine Cj.condF rfl rfl ?_
    | refine Cj.condT rfl rfl ?_
    | refine Cj.exit rfl (Ej.go ?_ (fun _ _ h => h))
    | refine Cj.cond rfl rfl (fun h => ?_) (fun h => ?_)
    | refine Cj.skip rfl (Ej.go ?_ (fun _ _ h => h))
    | (refine Cj.skip rfl (Ej.back (fun _ _ h => h) (by repeat (first | exact .refl | apply DropTo.tail)) ?_); repeat (first | exact trivial | refine ⟨rfl, ?_⟩))
    | refine Cj.seq rfl ?_
    | refine Cj.region rfl ?_)
    refine Cj.block rfl ?_
    refine Cj.ws (ι := Value) (fun _ => True) (fun u => [.row (Kd.int .i64) 3 0 u (nth ys i z69).f1, .lent k69 69 0 (.slice (some ⟨g, 0, none⟩) xs.length c) ys (i : Int) [.int .i64 (nth ys i z69).f0, u, .int .i64 (nth ys i z69).f2, .int .i64 (nth ys i z69).f3] u]) (fun _ => []) (fun w hW => by
      obtain ⟨u, hu⟩ := hW.lend (di := Kd.int .i64) (ei := 3) (i := (i : Int)) (fun u => [.int .i64 (nth ys i z69).f0, u, .int .i64 (nth ys i z69).f2, .int .i64 (nth ys i z69).f3]) z69 (n := 0) rfl (by omega) (by omega) (fun w ok cs h => by
        have := open69 w 0 _ ok cs h
        simpa [nth] using this)
      exact ⟨u, trivial, hu⟩) (fun u _ => ?_)
    repeat (first
    | refine Jl.yd (Y.mv rfl rfl) rfl rfl rfl ?_
    | refine Jl.yd (Y.asg rfl rfl) rfl rfl rfl ?_
    | refine Jl.yd (Y.ext rfl rfl rfl) rfl rfl rfl ?_
    | refine Jl.yd (Y.pickT rfl rfl rfl) rfl rfl rfl ?_
    | refine Jl.yd (Y.pickF rfl rfl rfl) rfl rfl rfl ?_
    | refine Jl.off rfl rfl rfl ?_
    | refine Jl.yd (Y.cmpF rfl rfl rfl rfl (by omega)) rfl rfl rfl ?_
    | refine Jl.yd (Y.cmpT rfl rfl rfl rfl (by omega)) rfl rfl rfl ?_
    | refine Jl.yd (Y.neqB rfl rfl rfl Try.underlying4) rfl rfl rfl ?_
    | refine Jl.yd (Y.cmp rfl rfl rfl rfl) rfl rfl rfl ?_
    | refine Jl.yd (Y.not rfl rfl) rfl rfl rfl ?_
    | refine Jl.yd (Y.arithN rfl rfl rfl rfl (by omega)) rfl rfl rfl ?_
    | refine Jl.yd (Y.arith64 rfl rfl rfl rfl) rfl rfl rfl ?_
    | refine Jl.yd (Y.idx0 rfl rfl rfl el25 (by omega) (by omega)) rfl rfl rfl ?_
    | refine Jl.yd (Y.fldB rfl rfl fld69_0) rfl rfl rfl ?_
    | refine Jl.yd (Y.fldB rfl rfl fld69_1) rfl rfl rfl ?_
    | refine Jl.yd (Y.fldB rfl rfl fld69_2) rfl rfl rfl ?_
    | refine Jl.yd (Y.fldB rfl rfl fld69_3) rfl rfl rfl ?_
    | refine Jl.storeL rfl rfl rfl rfl rfl sz3 rfl (by repeat (first | exact .head _ | refine .tail _ ?_)) (by omega) (by omega) 0 (by rfl) (by decide) (by repeat (first | exact .z | apply PutAt.s)) (by repeat (first | exact .z | apply SetAt.s)) ?_
    | refine Jl.storeL rfl rfl rfl rfl rfl sz3 rfl (by repeat (first | exact .head _ | refine .tail _ ?_)) (by omega) (by omega) 2 (by rfl) (by decide) (by repeat (first | exact .z | apply PutAt.s)) (by repeat (first | exact .z | apply SetAt.s)) ?_
    | refine Jl.storeL rfl rfl rfl rfl rfl sz3 rfl (by repeat (first | exact .head _ | refine .tail _ ?_)) (by omega) (by omega) 3 (by rfl) (by decide) (by repeat (first | exact .z | apply PutAt.s)) (by repeat (first | exact .z | apply SetAt.s)) ?_
    | refine Jl.yd (Y.loadL rfl rfl sc29 (by repeat (first | exact .head _ | refine .tail _ ?_)) (by omega) (by omega) 1 (by rfl) (by rfl)) rfl rfl rfl ?_
    | refine Jl.splitG rfl rfl (fun h => ?_) (fun h => ?_)
    | refine Jl.nil (Ej.go ?_ (fun _ _ h => h))
    | (refine Jl.nil (Ej.back (fun _ _ h => h) (by repeat (first | exact .refl | apply DropTo.tail)) ?_); repeat (first | exact trivial | refine ⟨rfl, ?_⟩))
    | refine Cj.condF rfl rfl (Cj.skip rfl (Ej.go ?_ (fun _ _ h => h)))
    | (refine Cj.condF rfl rfl (Cj.skip rfl (Ej.back (fun _ _ h => h) (by repeat (first | exact .refl | apply DropTo.tail)) ?_)); repeat (first | exact trivial | refine ⟨rfl, ?_⟩))
    | refine Cj.condF rfl rfl ?_
    | refine Cj.condT rfl rfl ?_
    | refine Cj.exit rfl (Ej.go ?_ (fun _ _ h => h))
    | refine Cj.cond rfl rfl (fun h => ?_) (fun h => ?_)
    | refine Cj.skip rfl (Ej.go ?_ (fun _ _ h => h))
    | (refine Cj.skip rfl (Ej.back (fun _ _ h => h) (by repeat (first | exact .refl | apply DropTo.tail)) ?_); repeat (first | exact trivial | refine ⟨rfl, ?_⟩))
    | refine Cj.seq rfl ?_
    | refine Cj.region rfl ?_)
    obtain ⟨⟨r1, l2⟩, e1, e2, kk, hkk⟩ := markIntsFrom (nth ys i z69).f1 (by rw [hlen]; exact hmi) (k + 1).toNat (by omega)
    dsimp only at e1 e2
    have hkk' := hkk kk (Nat.le_refl _)
    rw [show (((k + 1).toNat : Nat) : Int) = k + 1 by omega] at hkk'
    have e1' : r1 = k + 1 + ((nth xs i z69).f1.length : Int) := by rw [e1, hlen]; omega
    subst e1'
    refine Jl.callM (v := .int .i64 (k + 1 + ((nth xs i z69).f1.length : Int))) (.row (Kd.int .i64) 3 0 u (nth ys i z69).f1) (.row (Kd.int .i64) 3 0 u l2) rfl rfl rfl rfl en28 rfl .z (fun w A hW hA => of_kept hA (fun P0 w0 hB hR => laws_markIntS.calls kk P0 u (nth ys i z69).f1 (k + 1) _ l2 w0 w hB hR hkk')) ?_
    repeat (first
    | refine Jl.yd (Y.mv rfl rfl) rfl rfl rfl ?_
    | refine Jl.yd (Y.asg rfl rfl) rfl rfl rfl ?_
    | refine Jl.yd (Y.ext rfl rfl rfl) rfl rfl rfl ?_
    | refine Jl.yd (Y.pickT rfl rfl rfl) rfl rfl rfl ?_
    | refine Jl.yd (Y.pickF rfl rfl rfl) rfl rfl rfl ?_
    | refine Jl.off rfl rfl rfl ?_
    | refine Jl.yd (Y.cmpF rfl rfl rfl rfl (by omega)) rfl rfl rfl ?_
    | refine Jl.yd (Y.cmpT rfl rfl rfl rfl (by omega)) rfl rfl rfl ?_
    | refine Jl.yd (Y.neqB rfl rfl rfl Try.underlying4) rfl rfl rfl ?_
    | refine Jl.yd (Y.cmp rfl rfl rfl rfl) rfl rfl rfl ?_
    | refine Jl.yd (Y.not rfl rfl) rfl rfl rfl ?_
    | refine Jl.yd (Y.arithN rfl rfl rfl rfl (by omega)) rfl rfl rfl ?_
    | refine Jl.yd (Y.arith64 rfl rfl rfl rfl) rfl rfl rfl ?_
    | refine Jl.yd (Y.idx0 rfl rfl rfl el25 (by omega) (by omega)) rfl rfl rfl ?_
    | refine Jl.yd (Y.fldB rfl rfl fld69_0) rfl rfl rfl ?_
    | refine Jl.yd (Y.fldB rfl rfl fld69_1) rfl rfl rfl ?_
    | refine Jl.yd (Y.fldB rfl rfl fld69_2) rfl rfl rfl ?_
    | refine Jl.yd (Y.fldB rfl rfl fld69_3) rfl rfl rfl ?_
    | refine Jl.storeL rfl rfl rfl rfl rfl sz3 rfl (by repeat (first | exact .head _ | refine .tail _ ?_)) (by omega) (by omega) 0 (by rfl) (by decide) (by repeat (first | exact .z | apply PutAt.s)) (by repeat (first | exact .z | apply SetAt.s)) ?_
    | refine Jl.storeL rfl rfl rfl rfl rfl sz3 rfl (by repeat (first | exact .head _ | refine .tail _ ?_)) (by omega) (by omega) 2 (by rfl) (by decide) (by repeat (first | exact .z | apply PutAt.s)) (by repeat (first | exact .z | apply SetAt.s)) ?_
    | refine Jl.storeL rfl rfl rfl rfl rfl sz3 rfl (by repeat (first | exact .head _ | refine .tail _ ?_)) (by omega) (by omega) 3 (by rfl) (by decide) (by repeat (first | exact .z | apply PutAt.s)) (by repeat (first | exact .z | apply SetAt.s)) ?_
    | refine Jl.yd (Y.loadL rfl rfl sc29 (by repeat (first | exact .head _ | refine .tail _ ?_)) (by omega) (by omega) 1 (by rfl) (by rfl)) rfl rfl rfl ?_
    | refine Jl.splitG rfl rfl (fun h => ?_) (fun h => ?_)
    | refine Jl.nil (Ej.go ?_ (fun _ _ h => h))
    | (refine Jl.nil (Ej.back (fun _ _ h => h) (by repeat (first | exact .refl | apply DropTo.tail)) ?_); repeat (first | exact trivial | refine ⟨rfl, ?_⟩))
    | refine Cj.condF rfl rfl (Cj.skip rfl (Ej.go ?_ (fun _ _ h => h)))
    | (refine Cj.condF rfl rfl (Cj.skip rfl (Ej.back (fun _ _ h => h) (by repeat (first | exact .refl | apply DropTo.tail)) ?_)); repeat (first | exact trivial | refine ⟨rfl, ?_⟩))
    | refine Cj.condF rfl rfl ?_
    | refine Cj.condT rfl rfl ?_
    | refine Cj.exit rfl (Ej.go ?_ (fun _ _ h => h))
    | refine Cj.cond rfl rfl (fun h => ?_) (fun h => ?_)
    | refine Cj.skip rfl (Ej.go ?_ (fun _ _ h => h))
    | (refine Cj.skip rfl (Ej.back (fun _ _ h => h) (by repeat (first | exact .refl | apply DropTo.tail)) ?_); repeat (first | exact trivial | refine ⟨rfl, ?_⟩))
    | refine Cj.seq rfl ?_
    | refine Cj.region rfl ?_)
    refine Jl.nil ?_
    refine Ej.ws (ι := Unit) (fun _ => True) (fun _ => [.rowS k69 69 0 (.slice (some ⟨g, 0, none⟩) xs.length c) (ys.set i ⟨k, l2, k + 1 + ((nth xs i z69).f1.length : Int), k + 1 + ((nth xs i z69).f1.length : Int) + 1⟩)]) (fun _ => []) (fun w hW => ⟨(), trivial, by
      have := hW.back (n := 0) (x' := (⟨k, l2, k + 1 + ((nth xs i z69).f1.length : Int), k + 1 + ((nth xs i z69).f1.length : Int) + 1⟩ : S69)) rfl rfl (fun w ok h => k69_mkM w 0 ok ⟨k, l2, k + 1 + ((nth xs i z69).f1.length : Int), k + 1 + ((nth xs i z69).f1.length : Int) + 1⟩ h)
      simpa using this⟩) (fun _ _ => ?_)
    refine Ej.cut (ι := Nat × List S69) _ _ _ _ (fun _ _ h => h) (i + 1, ys.set i ⟨k, l2, k + 1 + ((nth xs i z69).f1.length : Int), k + 1 + ((nth xs i z69).f1.length : Int) + 1⟩) ⟨⟨by omega, by simp [h2], fun j hj hjl => ?_⟩, by dsimp only; omega⟩ ⟨rfl, ?_, rfl, rfl, trivial⟩ rfl (fun p hp => hp)
    · rw [← h3 j (by omega) hjl]
      unfold nth
      simp only [List.getD_eq_getElem?_getD]
      rw [List.getElem?_set_ne (by omega)]
    · show some (Value.int .i64 (k + 1 + ((nth xs i z69).f1.length : Int) + 1 + 1)) = some (.int .i64 (kA xs k0 (i + 1)))
      rw [hkn]
      congr 2
      omega
  · obtain rfl : i = xs.length := by omega
    repeat (first
    | refine Jl.yd (Y.mv rfl rfl) rfl rfl rfl ?_
    | refine Jl.yd (Y.asg rfl rfl) rfl rfl rfl ?_
    | refine Jl.yd (Y.ext rfl rfl rfl) rfl rfl rfl ?_
    | refine Jl.yd (Y.pickT rfl rfl rfl) rfl rfl rfl ?_
    | refine Jl.yd (Y.pickF rfl rfl rfl) rfl rfl rfl ?_
    | refine Jl.off rfl rfl rfl ?_
    | refine Jl.yd (Y.cmpF rfl rfl rfl rfl (by omega)) rfl rfl rfl ?_
    | refine Jl.yd (Y.cmpT rfl rfl rfl rfl (by omega)) rfl rfl rfl ?_
    | refine Jl.yd (Y.neqB rfl rfl rfl Try.underlying4) rfl rfl rfl ?_
    | refine Jl.yd (Y.cmp rfl rfl rfl rfl) rfl rfl rfl ?_
    | refine Jl.yd (Y.not rfl rfl) rfl rfl rfl ?_
    | refine Jl.yd (Y.arithN rfl rfl rfl rfl (by omega)) rfl rfl rfl ?_
    | refine Jl.yd (Y.arith64 rfl rfl rfl rfl) rfl rfl rfl ?_
    | refine Jl.yd (Y.lenS Try.underlying25 rfl rfl rfl) rfl rfl rfl ?_
    | refine Jl.splitG rfl rfl (fun h => ?_) (fun h => ?_)
    | refine Jl.nil (Ej.go ?_ (fun _ _ h => h))
    | (refine Jl.nil (Ej.back (fun _ _ h => h) (by repeat (first | exact .refl | apply DropTo.tail)) ?_); repeat (first | exact trivial | refine ⟨rfl, ?_⟩))
    | refine Cj.condF rfl rfl (Cj.skip rfl (Ej.go ?_ (fun _ _ h => h)))
    | (refine Cj.condF rfl rfl (Cj.skip rfl (Ej.back (fun _ _ h => h) (by repeat (first | exact .refl | apply DropTo.tail)) ?_)); repeat (first | exact trivial | refine ⟨rfl, ?_⟩))
    | refine Cj.condF rfl rfl ?_
    | refine Cj.condT rfl rfl ?_
    | refine Cj.exit rfl (Ej.go ?_ (fun _ _ h => h))
    | refine Cj.cond rfl rfl (fun h => ?_) (fun h => ?_)
    | refine Cj.skip rfl (Ej.go ?_ (fun _ _ h => h))
    | (refine Cj.skip rfl (Ej.back (fun _ _ h => h) (by repeat (first | exact .refl | apply DropTo.tail)) ?_); repeat (first | exact trivial | refine ⟨rfl, ?_⟩))
    | refine Cj.seq rfl ?_
    | refine Cj.region rfl ?_)
    refine Cj.ret rfl (Ej.out1 (P := Try.prog) (fn := Try.f26) (R := fun e w' => e = .returned (.int .i64 (kA xs k0 xs.length)) ∧ ∃ S', (Item.any Dead).p w' S' ∧ (∀ k, S' k → k < w.heap.size → S k) ∧ Aft S w w') (fun _ _ h => h) rfl rfl (fun w' hW => ?_))
    subst hki'
    obtain ⟨S', g1, g2, g3⟩ := hW.end1
    exact ⟨rfl, S', (fun k hk => g1.2 k hk), g2, g3⟩
set_option maxHeartbeats 1000000 in
theorem markSchoolS_nil (w : World) (S : Nat → Prop) (c : Nat) (k0 : Int) (hS : ∀ k, S k → k < w.heap.size) : Calls Try.prog 26 #[.slice none 0 c, .int .i64 k0] w fun e w' => e = .returned (.int .i64 k0) ∧ ∃ S', (Item.any Dead).p w' S' ∧ (∀ k, S' k → k < w.heap.size → S k) ∧ Aft S w w' := by
  refine enterS (S := S) (args := [.slice none 0 c, .int .i64 k0]) [.any Dead] [] (Own.single (i := .any Dead) hS) (fun p hp => by cases hp) Try.func26 rfl rfl ?_
  repeat (first
    | refine Jl.yd (Y.mv rfl rfl) rfl rfl rfl ?_
    | refine Jl.yd (Y.asg rfl rfl) rfl rfl rfl ?_
    | refine Jl.yd (Y.ext rfl rfl rfl) rfl rfl rfl ?_
    | refine Jl.yd (Y.pickT rfl rfl rfl) rfl rfl rfl ?_
    | refine Jl.yd (Y.pickF rfl rfl rfl) rfl rfl rfl ?_
    | refine Jl.off rfl rfl rfl ?_
    | refine Jl.yd (Y.cmpF rfl rfl rfl rfl (by omega)) rfl rfl rfl ?_
    | refine Jl.yd (Y.cmpT rfl rfl rfl rfl (by omega)) rfl rfl rfl ?_
    | refine Jl.yd (Y.neqB rfl rfl rfl Try.underlying4) rfl rfl rfl ?_
    | refine Jl.yd (Y.cmp rfl rfl rfl rfl) rfl rfl rfl ?_
    | refine Jl.yd (Y.not rfl rfl) rfl rfl rfl ?_
    | refine Jl.yd (Y.arithN rfl rfl rfl rfl (by omega)) rfl rfl rfl ?_
    | refine Jl.yd (Y.arith64 rfl rfl rfl rfl) rfl rfl rfl ?_
    | refine Jl.splitG rfl rfl (fun h => ?_) (fun h => ?_)
    | refine Jl.nil (Ej.go ?_ (fun _ _ h => h))
    | (refine Jl.nil (Ej.back (fun _ _ h => h) (by repeat (first | exact .refl | apply DropTo.tail)) ?_); repeat (first | exact trivial | refine ⟨rfl, ?_⟩))
    | refine Cj.condF rfl rfl (Cj.skip rfl (Ej.go ?_ (fun _ _ h => h)))
    | (refine Cj.condF rfl rfl (Cj.skip rfl (Ej.back (fun _ _ h => h) (by repeat (first | exact .refl | apply DropTo.tail)) ?_)); repeat (first | exact trivial | refine ⟨rfl, ?_⟩))
    | refine Cj.condF rfl rfl ?_
    | refine Cj.condT rfl rfl ?_
    | refine Cj.exit rfl (Ej.go ?_ (fun _ _ h => h))
    | refine Cj.cond rfl rfl (fun h => ?_) (fun h => ?_)
    | refine Cj.skip rfl (Ej.go ?_ (fun _ _ h => h))
    | (refine Cj.skip rfl (Ej.back (fun _ _ h => h) (by repeat (first | exact .refl | apply DropTo.tail)) ?_); repeat (first | exact trivial | refine ⟨rfl, ?_⟩))
    | refine Cj.seq rfl ?_
    | refine Cj.region rfl ?_)
  refine Cj.block rfl ?_
  refine Cj.loop (ι := Unit) (fun _ => True) (fun p => [(0, .slice none 0 c), (1, .int .i64 k0), (5, .int .i64 0), (4, .int .i64 0)]) (fun _ => [.any Dead]) (fun _ => []) (fun _ => 0) rfl () trivial ⟨rfl, rfl, rfl, rfl, trivial⟩ rfl (fun p hp => hp) (fun p hp => ?_)
  repeat (first
    | refine Jl.yd (Y.mv rfl rfl) rfl rfl rfl ?_
    | refine Jl.yd (Y.asg rfl rfl) rfl rfl rfl ?_
    | refine Jl.yd (Y.ext rfl rfl rfl) rfl rfl rfl ?_
    | refine Jl.yd (Y.pickT rfl rfl rfl) rfl rfl rfl ?_
    | refine Jl.yd (Y.pickF rfl rfl rfl) rfl rfl rfl ?_
    | refine Jl.off rfl rfl rfl ?_
    | refine Jl.yd (Y.cmpF rfl rfl rfl rfl (by omega)) rfl rfl rfl ?_
    | refine Jl.yd (Y.cmpT rfl rfl rfl rfl (by omega)) rfl rfl rfl ?_
    | refine Jl.yd (Y.neqB rfl rfl rfl Try.underlying4) rfl rfl rfl ?_
    | refine Jl.yd (Y.cmp rfl rfl rfl rfl) rfl rfl rfl ?_
    | refine Jl.yd (Y.not rfl rfl) rfl rfl rfl ?_
    | refine Jl.yd (Y.arithN rfl rfl rfl rfl (by omega)) rfl rfl rfl ?_
    | refine Jl.yd (Y.arith64 rfl rfl rfl rfl) rfl rfl rfl ?_
    | refine Jl.yd (Y.lenS Try.underlying25 rfl rfl rfl) rfl rfl rfl ?_
    | refine Jl.splitG rfl rfl (fun h => ?_) (fun h => ?_)
    | refine Jl.nil (Ej.go ?_ (fun _ _ h => h))
    | (refine Jl.nil (Ej.back (fun _ _ h => h) (by repeat (first | exact .refl | apply DropTo.tail)) ?_); repeat (first | exact trivial | refine ⟨rfl, ?_⟩))
    | refine Cj.condF rfl rfl (Cj.skip rfl (Ej.go ?_ (fun _ _ h => h)))
    | (refine Cj.condF rfl rfl (Cj.skip rfl (Ej.back (fun _ _ h => h) (by repeat (first | exact .refl | apply DropTo.tail)) ?_)); repeat (first | exact trivial | refine ⟨rfl, ?_⟩))
    | refine Cj.condF rfl rfl ?_
    | refine Cj.condT rfl rfl ?_
    | refine Cj.exit rfl (Ej.go ?_ (fun _ _ h => h))
    | refine Cj.cond rfl rfl (fun h => ?_) (fun h => ?_)
    | refine Cj.skip rfl (Ej.go ?_ (fun _ _ h => h))
    | (refine Cj.skip rfl (Ej.back (fun _ _ h => h) (by repeat (first | exact .refl | apply DropTo.tail)) ?_); repeat (first | exact trivial | refine ⟨rfl, ?_⟩))
    | refine Cj.seq rfl ?_
    | refine Cj.region rfl ?_)
  refine Cj.ret rfl (Ej.out1 (P := Try.prog) (fn := Try.f26) (R := fun e w' => e = .returned (.int .i64 k0) ∧ ∃ S', (Item.any Dead).p w' S' ∧ (∀ k, S' k → k < w.heap.size → S k) ∧ Aft S w w') (fun _ _ h => h) rfl rfl (fun w' hW => ?_))
  obtain ⟨S', g1, g2, g3⟩ := hW.end1
  exact ⟨rfl, S', g1, g2, g3⟩
theorem markSchoolS_calls (w : World) (S : Nat → Prop) (v : Value) (xs : List S69) (k0 : Int) (hk : 0 ≤ k0 ∧ k0 ≤ 1099511627776) (hn : xs.length ≤ 1048576) (hm : ∀ i, i < xs.length → (nth xs i z69).f1.length ≤ 1048576)
    (hS : (Item.rowS k69 69 0 v xs).p w S) : Calls Try.prog 26 #[v, .int .i64 k0] w fun e w' => e = .returned (.int .i64 (kA xs k0 xs.length)) ∧ ∃ S', (Item.any Dead).p w' S' ∧ (∀ k, S' k → k < w.heap.size → S k) ∧ Aft S w w' := by
  rcases rowS_form hS.1 with ⟨c, rfl, rfl⟩ | ⟨g, c, rfl⟩
  · exact markSchoolS_nil w S c k0 hS.2
  · exact markSchoolS_run w S g c xs k0 hk hn hm hS
end Go.Proofs.Ytblihmohgfmpgaa.WK

namespace Go.Proofs.Ytblihmohgfmpgaa.WKMPW
open Go Go.RowKit Go.Proofs.Ytblihmohgfmpgaa.Q Go.Proofs.Ytblihmohgfmpgaa.M Go.Proofs.YtblihmohgfmpgaaW.PrintWords Go.Proofs.YtblihmohgfmpgaaW.Pl Go.Proofs.YtblihmohgfmpgaaW.SL Go.Proofs.Ytblihmohgfmpgaa.WK
set_option linter.unusedSimpArgs false
set_option linter.unusedVariables false
set_option maxRecDepth 100000
theorem agg31 : AggT Try.prog 31 3 := ⟨by kernel_rfl⟩
theorem agg35 : AggT Try.prog 35 3 := ⟨by kernel_rfl⟩
theorem sz35 : SzT Try.prog 35 3 := ⟨by kernel_rfl⟩
theorem sz3 : SzT Try.prog 3 1 := ⟨by kernel_rfl⟩
theorem zero35 : ZeroT Try.prog 35 [.slice none 0 0, .int .i64 0, .int .i64 0] := ⟨by kernel_rfl⟩
theorem en13 : Ent Try.prog 13 := ⟨enters_of Try.func13 (by kernel_rfl) rfl⟩
theorem en18 : Ent Try.prog 18 := ⟨enters_of Try.func18 (by kernel_rfl) rfl⟩
theorem en15 : Ent Try.prog 15 := ⟨enters_of Try.func15 (by kernel_rfl) rfl⟩
theorem en20 : Ent Try.prog 20 := ⟨enters_of Try.func20 (by kernel_rfl) rfl⟩
theorem en36 : Ent Try.prog 36 := ⟨enters_of Try.func36 (by kernel_rfl) rfl⟩
theorem en37 : Ent Try.prog 37 := ⟨enters_of Try.func37 (by kernel_rfl) rfl⟩
theorem en25 : Ent Try.prog 25 := ⟨enters_of Try.func25 (by kernel_rfl) rfl⟩
theorem en17 : Ent Try.prog 17 := ⟨enters_of Try.func17 (by kernel_rfl) rfl⟩
theorem en22 : Ent Try.prog 22 := ⟨enters_of Try.func22 (by kernel_rfl) rfl⟩
theorem en26 : Ent Try.prog 26 := ⟨enters_of Try.func26 (by kernel_rfl) rfl⟩
theorem en27 : Ent Try.prog 27 := ⟨enters_of Try.func27 (by kernel_rfl) rfl⟩
theorem en28 : Ent Try.prog 28 := ⟨enters_of Try.func28 (by kernel_rfl) rfl⟩
theorem en29 : Ent Try.prog 29 := ⟨enters_of Try.func29 (by kernel_rfl) rfl⟩
theorem mixed : Try.prog.follows .mixedOrders = true := by kernel_rfl
theorem held_n {k n c : Nat} {l : List Int} {r : Int} {w : World} {A : Option Addr} (hn : n = l.length) (hr : Kd.C (Kd.int .i64) w A l.length l) (hc : l.length ≤ c) (h : laws_heldIntS.f k l 1 = some r) : Calls Try.prog 29 #[.slice A n c, .int .i64 1] w fun e w' => e = .returned (.int .i64 r) ∧ Below w.heap.size w w' := by
  subst hn
  exact (laws_heldIntS.calls k A c l 1 r w hr hc h).mono (fun _ _ hh => ⟨hh.1, hh.2.below⟩)
set_option maxHeartbeats 2000000 in
theorem walkA (l0 : List S68) (m : List Int) (a b : Int) (A0 : Option Addr) (c0 : Nat) (A1 : Option Addr) (c1 : Nat) (w : World) (hr0 : Kd.C k68 w A0 l0.length l0) (hc0 : l0.length ≤ c0) (hr1 : Kd.C (Kd.int .i64) w A1 m.length m) (hc1 : m.length ≤ c1) (kz : Nat) (r : Int) (hz : laws_szSchoolS.f kz l0 1048576 = some r) (hr : r < 0) : Calls Try.prog 9 #[.slice A0 l0.length c0, .agg #[.slice A1 m.length c1, .int .i64 a, .int .i64 b]] w fun e w' => e = .returned (.bool true) ∧ Below w.heap.size w w' := by
  refine enterW (args := [.slice A0 l0.length c0, .agg #[.slice A1 m.length c1, .int .i64 a, .int .i64 b]]) [fun w => Kd.C k68 w A0 l0.length l0, fun w => Kd.C (Kd.int .i64) w A1 m.length m] (fun p hp W hb => by
    rcases List.mem_cons.1 hp with rfl | hp
    · exact Kd.C_below hr0 hb
    · rw [List.mem_singleton.1 hp]; exact Kd.C_below hr1 hb) Try.func9 rfl rfl ?_
  repeat (first
    | (apply gateO; first
      | refine Jl.yd (Y.mv rfl rfl) rfl rfl rfl ?_
      | refine Jl.yd (Y.asg rfl rfl) rfl rfl rfl ?_
      | refine Jl.yd (Y.ext rfl rfl rfl) rfl rfl rfl ?_
      | refine Jl.yd (Y.pickT rfl rfl rfl) rfl rfl rfl ?_
      | refine Jl.yd (Y.pickF rfl rfl rfl) rfl rfl rfl ?_
      | refine Jl.off rfl rfl rfl ?_
      | refine Jl.yd (Y.cmpF rfl rfl rfl rfl (by omega)) rfl rfl rfl ?_
      | refine Jl.yd (Y.cmpT rfl rfl rfl rfl (by omega)) rfl rfl rfl ?_
      | refine Jl.yd (Y.neqB rfl rfl rfl Try.underlying4) rfl rfl rfl ?_
      | refine Jl.yd (Y.cmp rfl rfl rfl rfl) rfl rfl rfl ?_
      | refine Jl.yd (Y.not rfl rfl) rfl rfl rfl ?_
      | refine Jl.yd (Y.arithN rfl rfl rfl rfl (by omega)) rfl rfl rfl ?_
      | refine Jl.yd (Y.arith64 rfl rfl rfl rfl) rfl rfl rfl ?_
      | refine Jl.yd (Y.loadA rfl rfl agg31 (by repeat (first | exact .head _ | refine .tail _ ?_)) (by rfl)) rfl rfl rfl ?_
      | refine Jl.yd (Y.loadA rfl rfl agg35 (by repeat (first | exact .head _ | refine .tail _ ?_)) (by rfl)) rfl rfl rfl ?_
      | refine Jl.alloc rfl rfl rfl rfl zero35 (fun g => ?_)
      | refine Jl.storeA rfl rfl rfl rfl rfl sz35 (by repeat (first | exact .z | apply SetAt.s)) (by rfl) (by rfl) ?_
      | refine Jl.store1 rfl rfl rfl rfl rfl sz3 rfl (by repeat (first | exact .head _ | refine .tail _ ?_)) (by repeat (first | exact .z | apply PutAt.s)) (by repeat (first | exact .z | apply SetAt.s)) ?_
      | refine Jl.call1 (v := .int .i64 r) rfl rfl rfl rfl en13 rfl (fun w hW => by with_reducible exact laws_szSchoolS.calls kz _ _ l0 1048576 r w (hW.at 0 rfl) hc0 hz) ?_
      | refine Jl.box (zs := [.slice A1 m.length c1, .int .i64 a, .int .i64 b]) rfl rfl rfl rfl rfl (by rfl) (fun g => ?_)
      | refine Jl.splitG rfl rfl (fun h => ?_) (fun h => ?_))
    | (apply gateE; first
      | refine Jl.nil (Ej.go ?_ (fun _ _ h => h))
      | (refine Jl.nil (Ej.back (fun _ _ h => h) (by repeat (first | exact .refl | apply DropTo.tail)) ?_); repeat (first | exact trivial | refine ⟨rfl, ?_⟩)))
    | (apply gateC; first
      | refine Cj.ret rfl (Ej.out1 (P := Try.prog) (fn := Try.f9) (R := fun e w' => e = .returned (.bool true) ∧ Below w.heap.size w w') (fun _ _ h => h) rfl rfl (fun w hW => ⟨rfl, hW.below⟩))
      | refine Cj.condF rfl rfl (Cj.skip rfl (Ej.go ?_ (fun _ _ h => h)))
      | (refine Cj.condF rfl rfl (Cj.skip rfl (Ej.back (fun _ _ h => h) (by repeat (first | exact .refl | apply DropTo.tail)) ?_)); repeat (first | exact trivial | refine ⟨rfl, ?_⟩))
      | refine Cj.condF rfl rfl ?_
      | refine Cj.condT rfl rfl ?_
      | refine Cj.exit rfl (Ej.go ?_ (fun _ _ h => h))
      | refine Cj.cond rfl rfl (fun h => ?_) (fun h => ?_)
      | refine Cj.skip rfl (Ej.go ?_ (fun _ _ h => h))
      | (refine Cj.skip rfl (Ej.back (fun _ _ h => h) (by repeat (first | exact .refl | apply DropTo.tail)) ?_); repeat (first | exact trivial | refine ⟨rfl, ?_⟩))
      | refine Cj.seq rfl ?_
      | refine Cj.region rfl ?_))

set_option maxHeartbeats 2000000 in
theorem walkB (l0 : List S68) (m : List Int) (a b : Int) (A0 : Option Addr) (c0 : Nat) (A1 : Option Addr) (c1 : Nat) (w : World) (hr0 : Kd.C k68 w A0 l0.length l0) (hc0 : l0.length ≤ c0) (hr1 : Kd.C (Kd.int .i64) w A1 m.length m) (hc1 : m.length ≤ c1) (kz : Nat) (r r2 : Int) (hz : laws_szSchoolS.f kz l0 1048576 = some r) (hr : ¬ r < 0) (hp : laws_szPiece.f m a b r = some r2) (hr2 : r2 < 0) : Calls Try.prog 9 #[.slice A0 l0.length c0, .agg #[.slice A1 m.length c1, .int .i64 a, .int .i64 b]] w fun e w' => e = .returned (.bool true) ∧ Below w.heap.size w w' := by
  refine enterW (args := [.slice A0 l0.length c0, .agg #[.slice A1 m.length c1, .int .i64 a, .int .i64 b]]) [fun w => Kd.C k68 w A0 l0.length l0, fun w => Kd.C (Kd.int .i64) w A1 m.length m] (fun p hp W hb => by
    rcases List.mem_cons.1 hp with rfl | hp
    · exact Kd.C_below hr0 hb
    · rw [List.mem_singleton.1 hp]; exact Kd.C_below hr1 hb) Try.func9 rfl rfl ?_
  repeat (first
    | (apply gateO; first
      | refine Jl.yd (Y.mv rfl rfl) rfl rfl rfl ?_
      | refine Jl.yd (Y.asg rfl rfl) rfl rfl rfl ?_
      | refine Jl.yd (Y.ext rfl rfl rfl) rfl rfl rfl ?_
      | refine Jl.yd (Y.pickT rfl rfl rfl) rfl rfl rfl ?_
      | refine Jl.yd (Y.pickF rfl rfl rfl) rfl rfl rfl ?_
      | refine Jl.off rfl rfl rfl ?_
      | refine Jl.yd (Y.cmpF rfl rfl rfl rfl (by omega)) rfl rfl rfl ?_
      | refine Jl.yd (Y.cmpT rfl rfl rfl rfl (by omega)) rfl rfl rfl ?_
      | refine Jl.yd (Y.neqB rfl rfl rfl Try.underlying4) rfl rfl rfl ?_
      | refine Jl.yd (Y.cmp rfl rfl rfl rfl) rfl rfl rfl ?_
      | refine Jl.yd (Y.not rfl rfl) rfl rfl rfl ?_
      | refine Jl.yd (Y.arithN rfl rfl rfl rfl (by omega)) rfl rfl rfl ?_
      | refine Jl.yd (Y.arith64 rfl rfl rfl rfl) rfl rfl rfl ?_
      | refine Jl.yd (Y.loadA rfl rfl agg31 (by repeat (first | exact .head _ | refine .tail _ ?_)) (by rfl)) rfl rfl rfl ?_
      | refine Jl.yd (Y.loadA rfl rfl agg35 (by repeat (first | exact .head _ | refine .tail _ ?_)) (by rfl)) rfl rfl rfl ?_
      | refine Jl.alloc rfl rfl rfl rfl zero35 (fun g => ?_)
      | refine Jl.storeA rfl rfl rfl rfl rfl sz35 (by repeat (first | exact .z | apply SetAt.s)) (by rfl) (by rfl) ?_
      | refine Jl.store1 rfl rfl rfl rfl rfl sz3 rfl (by repeat (first | exact .head _ | refine .tail _ ?_)) (by repeat (first | exact .z | apply PutAt.s)) (by repeat (first | exact .z | apply SetAt.s)) ?_
      | refine Jl.call1 (v := .int .i64 r) rfl rfl rfl rfl en13 rfl (fun w hW => by with_reducible exact laws_szSchoolS.calls kz _ _ l0 1048576 r w (hW.at 0 rfl) hc0 hz) ?_
      | refine Jl.call1 (v := .int .i64 r2) rfl rfl rfl rfl en18 rfl (fun w hW => by with_reducible exact laws_szPiece.calls _ _ m a b r r2 w (hW.at 1 rfl) hc1 hp) ?_
      | refine Jl.box (zs := [.slice A1 m.length c1, .int .i64 a, .int .i64 b]) rfl rfl rfl rfl rfl (by rfl) (fun g => ?_)
      | refine Jl.splitG rfl rfl (fun h => ?_) (fun h => ?_))
    | (apply gateE; first
      | refine Jl.nil (Ej.go ?_ (fun _ _ h => h))
      | (refine Jl.nil (Ej.back (fun _ _ h => h) (by repeat (first | exact .refl | apply DropTo.tail)) ?_); repeat (first | exact trivial | refine ⟨rfl, ?_⟩)))
    | (apply gateC; first
      | refine Cj.ret rfl (Ej.out1 (P := Try.prog) (fn := Try.f9) (R := fun e w' => e = .returned (.bool true) ∧ Below w.heap.size w w') (fun _ _ h => h) rfl rfl (fun w hW => ⟨rfl, hW.below⟩))
      | refine Cj.condF rfl rfl (Cj.skip rfl (Ej.go ?_ (fun _ _ h => h)))
      | (refine Cj.condF rfl rfl (Cj.skip rfl (Ej.back (fun _ _ h => h) (by repeat (first | exact .refl | apply DropTo.tail)) ?_)); repeat (first | exact trivial | refine ⟨rfl, ?_⟩))
      | refine Cj.condF rfl rfl ?_
      | refine Cj.condT rfl rfl ?_
      | refine Cj.exit rfl (Ej.go ?_ (fun _ _ h => h))
      | refine Cj.cond rfl rfl (fun h => ?_) (fun h => ?_)
      | refine Cj.skip rfl (Ej.go ?_ (fun _ _ h => h))
      | (refine Cj.skip rfl (Ej.back (fun _ _ h => h) (by repeat (first | exact .refl | apply DropTo.tail)) ?_); repeat (first | exact trivial | refine ⟨rfl, ?_⟩))
      | refine Cj.seq rfl ?_
      | refine Cj.region rfl ?_))

set_option maxHeartbeats 8000000 in
theorem walkC (l0 : List S68) (m : List Int) (a b : Int) (A0 : Option Addr) (c0 : Nat) (A1 : Option Addr) (c1 : Nat) (w : World) (hr0 : Kd.C k68 w A0 l0.length l0) (hc0 : l0.length ≤ c0) (hr1 : Kd.C (Kd.int .i64) w A1 m.length m) (hc1 : m.length ≤ c1) (kz : Nat) (r r2 : Int) (hz : laws_szSchoolS.f kz l0 1048576 = some r) (hr : ¬ r < 0) (hp : laws_szPiece.f m a b r = some r2) (hr2 : ¬ r2 < 0)
    (l : List S69) (kt : Nat) (ht : laws_toSchoolS.f kt l0 = some l) (hln : l.length ≤ 1048576) (hlm : ∀ i, i < l.length → (nth l i z69).f1.length ≤ 1048576) (kp : Nat) (htp : laws_toPiece.f kp m a b = some (m, a, b))
    (q : List Int) (qb : Bool) (ks : Nat) (hs : spec_PossibleSchools.f ks l m a b = some (q, qb)) (ke : Nat) (he : laws_eqIntS.f ke q q = some true) (kq : Nat) (hq : laws_eqSchoolS.f kq l l = some true) (kx : Nat) (hx : laws_eqPiece.f kx m a b m a b = some true)
    (kn : Nat) (r3 : Int) (m' : List Int) (hmp : laws_markPiece.f kn m a b (kA l 1 l.length) = some (r3, m')) (hr3 : ¬ r3 < 0) (km : Nat) (hmk : laws_markIntS.f km q 1 = some (((q.length + 1 : Nat) : Int), marks q.length)) (kh : Nat) (hhe : laws_heldIntS.f kh (marks q.length) 1 = some ((q.length + 1 : Nat) : Int))
    (hI : ∀ (A0 : Option Addr) (c0 : Nat) (A1 : Option Addr) (c1 : Nat) (w : World), (∃ P0 : Nat → Prop, Kd.V k69 69 w w.heap.size (fun k => P0 k) (.slice A0 l.length c0) l) → Kd.C (Kd.int .i64) w A1 m.length m → m.length ≤ c1 →
      Calls Try.prog 37 #[.slice A0 l.length c0, .agg #[.slice A1 m.length c1, .int .i64 a, .int .i64 b]] w fun e w' => ∃ v, e = .returned (.tuple #[v, .bool qb]) ∧ Kd.R (Kd.int .i64) 3 w' w.heap.size (fun _ => True) v q ∧ Below w.heap.size w w') : Calls Try.prog 9 #[.slice A0 l0.length c0, .agg #[.slice A1 m.length c1, .int .i64 a, .int .i64 b]] w fun e w' => e = .returned (.bool true) ∧ Below w.heap.size w w' := by
  refine enterW (args := [.slice A0 l0.length c0, .agg #[.slice A1 m.length c1, .int .i64 a, .int .i64 b]]) [fun w => Kd.C k68 w A0 l0.length l0, fun w => Kd.C (Kd.int .i64) w A1 m.length m] (fun p hp W hb => by
    rcases List.mem_cons.1 hp with rfl | hp
    · exact Kd.C_below hr0 hb
    · rw [List.mem_singleton.1 hp]; exact Kd.C_below hr1 hb) Try.func9 rfl rfl ?_
  repeat (first
    | (apply gateO; first
      | refine Jl.yd (Y.mv rfl rfl) rfl rfl rfl ?_
      | refine Jl.yd (Y.asg rfl rfl) rfl rfl rfl ?_
      | refine Jl.yd (Y.ext rfl rfl rfl) rfl rfl rfl ?_
      | refine Jl.yd (Y.pickT rfl rfl rfl) rfl rfl rfl ?_
      | refine Jl.yd (Y.pickF rfl rfl rfl) rfl rfl rfl ?_
      | refine Jl.off rfl rfl rfl ?_
      | refine Jl.yd (Y.cmpF rfl rfl rfl rfl (by omega)) rfl rfl rfl ?_
      | refine Jl.yd (Y.cmpT rfl rfl rfl rfl (by omega)) rfl rfl rfl ?_
      | refine Jl.yd (Y.neqB rfl rfl rfl Try.underlying4) rfl rfl rfl ?_
      | refine Jl.yd (Y.cmp rfl rfl rfl rfl) rfl rfl rfl ?_
      | refine Jl.yd (Y.not rfl rfl) rfl rfl rfl ?_
      | refine Jl.yd (Y.arithN rfl rfl rfl rfl (by omega)) rfl rfl rfl ?_
      | refine Jl.yd (Y.arith64 rfl rfl rfl rfl) rfl rfl rfl ?_
      | refine Jl.yd (Y.loadA rfl rfl agg31 (by repeat (first | exact .head _ | refine .tail _ ?_)) (by rfl)) rfl rfl rfl ?_
      | refine Jl.yd (Y.loadA rfl rfl agg35 (by repeat (first | exact .head _ | refine .tail _ ?_)) (by rfl)) rfl rfl rfl ?_
      | refine Jl.alloc rfl rfl rfl rfl zero35 (fun g => ?_)
      | refine Jl.storeA rfl rfl rfl rfl rfl sz35 (by repeat (first | exact .z | apply SetAt.s)) (by rfl) (by rfl) ?_
      | refine Jl.store1 rfl rfl rfl rfl rfl sz3 rfl (by repeat (first | exact .head _ | refine .tail _ ?_)) (by repeat (first | exact .z | apply PutAt.s)) (by repeat (first | exact .z | apply SetAt.s)) ?_
      | refine Jl.call1 (v := .int .i64 r) rfl rfl rfl rfl en13 rfl (fun w hW => by with_reducible exact laws_szSchoolS.calls kz _ _ l0 1048576 r w (hW.at 0 rfl) hc0 hz) ?_
      | refine Jl.call1 (v := .int .i64 r2) rfl rfl rfl rfl en18 rfl (fun w hW => by with_reducible exact laws_szPiece.calls _ _ m a b r r2 w (hW.at 1 rfl) hc1 hp) ?_
      | refine Jl.callRS (fun v => v) rfl rfl rfl rfl en15 rfl (fun w hW => by with_reducible exact laws_toSchoolS.calls kt _ _ l0 l w (hW.at 0 rfl) hc0 ht) (fun A c hl => ?_)
      | refine Jl.callR 0 (fun v => .agg #[v, .int .i64 a, .int .i64 b]) rfl rfl rfl rfl en20 rfl (fun w hW => by with_reducible exact laws_toPiece.calls kp _ _ m a b m a b w (hW.at 1 rfl) hc1 htp) (fun A c hl => ?_)
      | refine Jl.callR 0 (fun v => .tuple #[v, .bool qb]) rfl rfl rfl rfl en36 rfl (fun w hW => by with_reducible exact spec_PossibleSchools.calls ks _ _ l _ _ m a b q qb w (hW.rowSC (by repeat (first | exact memH | refine memT ?_))) (hW.rowSCap (by repeat (first | exact memH | refine memT ?_))).2 (hW.rowC (by repeat (first | exact memH | refine memT ?_))) (hW.rowCap (by repeat (first | exact memH | refine memT ?_))).2 hs) (fun A c hl => ?_)
      | refine Jl.callR 0 (fun v => .tuple #[v, .bool qb]) rfl rfl rfl rfl en37 rfl (fun w hW => by with_reducible exact hI _ _ _ _ w (hW.rowSV (by repeat (first | exact memH | refine memT ?_))) (hW.rowC (by repeat (first | exact memH | refine memT ?_))) (hW.rowCap (by repeat (first | exact memH | refine memT ?_))).2) (fun A c hl => ?_)
      | refine Jl.call1 (v := .bool true) rfl rfl rfl rfl en25 rfl (fun w hW => by with_reducible exact Calls.mono (laws_eqIntS.calls ke _ _ q _ _ q true w (hW.rowC (by repeat (first | exact memH | refine memT ?_))) (hW.rowCap (by repeat (first | exact memH | refine memT ?_))).2 (hW.rowC (by repeat (first | exact memH | refine memT ?_))) (hW.rowCap (by repeat (first | exact memH | refine memT ?_))).2 he) (fun _ _ hh => ⟨hh.1, hh.2.below⟩)) ?_
      | refine Jl.call1 (v := .bool true) rfl rfl rfl rfl en17 rfl (fun w hW => by with_reducible exact laws_eqSchoolS.calls kq _ _ l _ _ l true w (hW.rowSC (by repeat (first | exact memH | refine memT ?_))) (hW.rowSCap (by repeat (first | exact memH | refine memT ?_))).2 (hW.rowSC (by repeat (first | exact memH | refine memT ?_))) (hW.rowSCap (by repeat (first | exact memH | refine memT ?_))).2 hq) ?_
      | refine Jl.call1 (v := .bool true) rfl rfl rfl rfl en22 rfl (fun w hW => by with_reducible exact laws_eqPiece.calls kx _ _ m a b _ _ m a b true w (hW.rowC (by repeat (first | exact memH | refine memT ?_))) (hW.rowCap (by repeat (first | exact memH | refine memT ?_))).2 (hW.rowC (by repeat (first | exact memH | refine memT ?_))) (hW.rowCap (by repeat (first | exact memH | refine memT ?_))).2 hx) ?_
      | refine Jl.callMv (v := .int .i64 (kA l 1 l.length)) (fun v => .rowS k69 69 0 v l) (fun _ => .any Dead) rfl rfl rfl rfl en26 rfl (by repeat (first | exact .z | apply SetAt.s)) (fun w A hW hA => markSchoolS_calls w A _ l 1 (by omega) hln hlm hA) ?_
      | refine Jl.callMa (v := .int .i64 r3) (fun v => .row (Kd.int .i64) 3 0 v m) (fun v => .row (Kd.int .i64) 3 0 v m') rfl rfl rfl rfl en27 rfl (by repeat (first | exact .z | apply SetAt.s)) (fun w A hW hA => of_kept hA (fun P0 w0 hB hR => laws_markPiece.calls kn P0 _ m a b _ _ _ w0 w hB hR hmp)) ?_
      | refine Jl.callMv (v := .int .i64 ((q.length + 1 : Nat) : Int)) (fun v => .row (Kd.int .i64) 3 0 v q) (fun v => .row (Kd.int .i64) 3 0 v (marks q.length)) rfl rfl rfl rfl en28 rfl (by repeat (first | exact .z | apply SetAt.s)) (fun w A hW hA => of_kept hA (fun P0 w0 hB hR => laws_markIntS.calls km P0 _ q 1 _ _ w0 w hB hR hmk)) ?_
      | refine Jl.call1 (v := .int .i64 ((q.length + 1 : Nat) : Int)) rfl rfl rfl rfl en29 rfl (fun w hW => by with_reducible exact held_n (hW.rowCap (by repeat (first | exact memH | refine memT ?_))).1 (hW.rowC (by repeat (first | exact memH | refine memT ?_))) (hW.rowCap (by repeat (first | exact memH | refine memT ?_))).2 hhe) ?_
      | refine Jl.box (zs := [.slice A1 m.length c1, .int .i64 a, .int .i64 b]) rfl rfl rfl rfl rfl (by rfl) (fun g => ?_)
      | refine Jl.splitG rfl rfl (fun h => ?_) (fun h => ?_))
    | (apply gateE; first
      | refine Jl.nil (Ej.go ?_ (fun _ _ h => h))
      | (refine Jl.nil (Ej.back (fun _ _ h => h) (by repeat (first | exact .refl | apply DropTo.tail)) ?_); repeat (first | exact trivial | refine ⟨rfl, ?_⟩)))
    | (apply gateC; first
      | refine Cj.regionD rfl (mkD [0, 1, 5, 6, 7, 8, 9] []) [] [0, 2, 1, 3, 4, 5, 6, 7, 8, 9] mixed (by decide +kernel) ?_
      | refine Cj.regionD rfl (mkD [0, 1, 4] []) [] [0, 1, 2, 3, 4] mixed (by decide +kernel) ?_
      | refine Cj.ret rfl (Ej.out1 (P := Try.prog) (fn := Try.f9) (R := fun e w' => e = .returned (.bool true) ∧ Below w.heap.size w w') (fun _ _ h => h) rfl rfl (fun w hW => ⟨rfl, hW.below⟩))
      | refine Cj.condF rfl rfl (Cj.skip rfl (Ej.go ?_ (fun _ _ h => h)))
      | (refine Cj.condF rfl rfl (Cj.skip rfl (Ej.back (fun _ _ h => h) (by repeat (first | exact .refl | apply DropTo.tail)) ?_)); repeat (first | exact trivial | refine ⟨rfl, ?_⟩))
      | refine Cj.condF rfl rfl ?_
      | refine Cj.condT rfl rfl ?_
      | refine Cj.exit rfl (Ej.go ?_ (fun _ _ h => h))
      | refine Cj.cond rfl rfl (fun h => ?_) (fun h => ?_)
      | refine Cj.skip rfl (Ej.go ?_ (fun _ _ h => h))
      | (refine Cj.skip rfl (Ej.back (fun _ _ h => h) (by repeat (first | exact .refl | apply DropTo.tail)) ?_); repeat (first | exact trivial | refine ⟨rfl, ?_⟩))
      | refine Cj.seq rfl ?_
      | refine Cj.region rfl ?_))

end Go.Proofs.Ytblihmohgfmpgaa.WKMPW

namespace Go.Proofs.YtblihmohgfmpgaaW.SL
open Go Go.RowKit Go.Proofs.YtblihmohgfmpgaaW.PrintWords
set_option linter.unusedSimpArgs false
set_option linter.unusedVariables false
/-- What append asks of an element type: its zero value, size and bytes. -/
structure ApT (P : Program) (T e size bytes : Nat) : Prop where
  und : P.underlying T = some (.slice e)
  inf : ∃ i z, P.info? e = some i ∧ i.zero = some z ∧ i.size = size ∧ i.bytes = bytes ∧ z.cells.size = size
  pos : 0 < size
theorem apT_of {P : Program} {T e size bytes : Nat} {z : Value} (hu : P.underlying T = some (.slice e)) (hi : (P.info? e).map (fun i => (i.zero, i.size, i.bytes)) = some (some z, size, bytes)) (hz : z.cells.size = size) (h0 : 0 < size) : ApT P T e size bytes := by
  obtain ⟨i, h1, h2⟩ := Option.map_eq_some_iff.1 hi
  simp only [Prod.mk.injEq] at h2
  exact ⟨hu, ⟨i, z, h1, h2.1, h2.2.1, h2.2.2, hz⟩, h0⟩
theorem WS.swap {B : Base} {w : World} {i j : Item} {its : List Item} {ps : List (World → Prop)} (h : WS B w (i :: j :: its) ps) : WS B w (j :: i :: its) ps :=
  h.recut (fun S hS => by
    obtain ⟨A, C, h1, ⟨A2, C2, g1, g2, g3, g4⟩, h3, h4⟩ := hS
    refine ⟨A2, fun k => A k ∨ C2 k, g1, ⟨A, C2, h1, g2, fun _ => Iff.rfl, fun k hk hc => h4 k hk ((g3 k).2 (.inr hc))⟩, fun k => ?_, fun k hk hc => ?_⟩
    · rw [h3 k, g3 k]
      constructor
      · rintro (h | h | h)
        · exact .inr (.inl h)
        · exact .inl h
        · exact .inr (.inr h)
      · rintro (h | h | h)
        · exact .inr (.inl h)
        · exact .inl h
        · exact .inr (.inr h)
    · rcases hc with hc | hc
      · exact h4 k hc ((g3 k).2 (.inl hk))
      · exact g4 k hk hc)
theorem map_range0 (f : Nat → Value) : Array.map f (Array.range 0) = #[] := by apply Array.toList_inj.1; rw [Array.toList_map, Array.toList_range]; rfl
theorem map_range1 (f : Nat → Value) : Array.map f (Array.range 1) = #[f 0] := by apply Array.toList_inj.1; rw [Array.toList_map, Array.toList_range]; rfl
section
variable {P : Program} {N : Nat} {B : Base} {L L' : Sl} {its its' : List Item} {ps ps' : List (World → Prop)} {Q : Exit → Act → World → Prop} {D : Dm} {k : Nat} {ops : Array Oper} {rest : List Oper} {o : Oper} {d T n m gx e bytes : Nat} {v v2 : Value} {x y z : Operand} {cs us : List Value} {α : Type} {dk : Kd α} {xs : List α}
/-- x = append(x, one element). -/
theorem Jl.app (p : α) (okp : Nat → Prop) (hw : wants ops L o = some true) (hop : o.op = .call { callee := .builtin .append, args := #[x, y], argTypes := #[T, T] }) (hd : o.dst = some d) (hN : Nat.blt d N = true) (hx : ev L x = some v) (hy : ev L y = some (.slice (some ⟨gx, 0, none⟩) 1 1))
    (hT : ApT P T e dk.sz bytes) (hb : Item.box gx e us ∈ its) (hul : us.length = dk.sz) (hM : ∀ w : World, dk.M w 0 (fun _ => False) p us) (hone : ∀ u ∈ us, u.oneCell' = true)
    (hn : OutAt (.row dk e 0 v xs) its its') (hl : (xs.length + 1) * bytes ≤ 140737488355328) (hl2 : xs.length + 1 ≤ 9223372036854775807)
    (h : ∀ A c, xs.length + 1 ≤ c → Jl P N B D (k + 1) ops Q rest ((d, .slice A (xs ++ [p]).length c) :: L) (.row dk e 0 (.slice A (xs ++ [p]).length c) (xs ++ [p]) :: its') ps) (hD : D.takes k = false := by rfl) (hEE : D.needs k = false := by rfl) : Jl P N B D k ops Q (o :: rest) L its ps := by
  obtain ⟨n, hn0, rfl⟩ := hn.at
  refine ⟨?_⟩
  intro a w hf hW
  have hbx := Box_at hW hb
  obtain ⟨i, zz, i1, i2, i3, i4, i5⟩ := hT.inf
  obtain ⟨A, g1, g2, g3⟩ := hW.beside hn0
  obtain ⟨r1, r2⟩ := g1
  obtain ⟨q0, inner, hown, hr⟩ := Kd.R_mono r1 (ok' := fun k => A k ∨ w.heap.size ≤ k) (fun k hk => .inl hk)
  obtain ⟨v', w', e1, e2, e3, _, e4⟩ := run_append_own_at (P := P) (w := w) 0 T o.type e i zz dk.sz bytes hT.und i1 i2 i3 i4 i5 hT.pos v xs.length inner hown ⟨gx, 0, none⟩ 1 1 us (by rw [hul, Nat.one_mul]) (fun j u hu => by
    have := Box_cells hbx 0 j u (by simpa using hu)
    simpa using this) hone (by simp only [maxLen]; omega) hl (Nat.zero_le _)
  have hR := Kd.R_appended q0 hr (hM w) (fun k hk => hk.elim) (fun k hk => .inr hk) e2 e3 (e4.imp id (fun h => ⟨_, h, Nat.le_refl _⟩))
  obtain ⟨A', c', rfl, hc', _⟩ := Kd.R_reads hR
  rw [List.length_append, List.length_singleton] at hc'
  have hAown : ∀ k, v.ownBlock = some k → A k := r1.1
  have haft : Aft A w w' := ⟨e3.os, e3.tape, e3.output, e3.size, fun k hk hnA => e3.block k hk (fun e => hnA (hAown k e.symm))⟩
  unfold runG
  rw [if_neg (by rw [hD]; simp), if_pos (hf.wants hw)]
  have hrun : (execOp a.eval o).run P w = .ok (.value (.slice A' (xs ++ [p]).length c')) w' := by
    unfold execOp; rw [hop]
    simp only [List.length_append, List.length_singleton] at e1 ⊢
    simp [resolve, invoke, builtin, hf.ev hx, hf.ev hy, e1]
  unfold Oper.wp
  rw [hrun, Oper.upon_value, hd]
  refine ⟨fun h' => (by rw [hEE] at h'; cases h'), ?_⟩
  exact h A' c' hc' _ _ (hf.put hN _) (g3 w' _ (fun k => (A k ∨ w.heap.size ≤ k) ∧ k < w'.heap.size) ⟨Kd.R_mono (Kd.R_bound hR) (fun k hk => ⟨hk.1, hk.2.2.1⟩), fun k hk => hk.2⟩ (fun k hk hlt => hk.1.resolve_right (by omega)) haft)
/-- A literal without elements. -/
theorem Jl.lit0 (dk : Kd α) {sz : Nat} (hw : wants ops L o = some true) (hop : o.op = .buildSlice T 0 #[]) (hd : o.dst = some d) (hN : Nat.blt d N = true) (hT : ElT P T e sz)
    (h : ∀ g, Jl P N B D (k + 1) ops Q rest ((d, .slice (some ⟨g, 0, none⟩) ([] : List α).length 0) :: L) (.row dk e 0 (.slice (some ⟨g, 0, none⟩) ([] : List α).length 0) ([] : List α) :: its) ps) (hD : D.takes k = false := by rfl) : Jl P N B D k ops Q (o :: rest) L its ps :=
  Jl.e (fun g : Nat => .slice (some ⟨g, 0, none⟩) ([] : List α).length 0) (fun g => .row dk e 0 (.slice (some ⟨g, 0, none⟩) ([] : List α).length 0) ([] : List α) :: its) (fun _ => ps) hw hd hN (fun a w hf hW => by
    have hTo := hT.out
    unfold elT at hTo
    cases hu : P.underlying T with
    | none => simp [hu] at hTo
    | some dd =>
      cases dd <;> simp [hu] at hTo
      rename_i e2
      obtain ⟨j, hj, rfl, rfl⟩ := hTo
      have hb : Below w.heap.size w (w.alloc (.cells #[] e2)) := below_alloc (Below.refl _ _) _
      refine ⟨w.heap.size, w.alloc (.cells #[] e2), ?_, fun _ => hb, hW.new hb (A := fun k => k = w.heap.size) ⟨⟨fun k hk => ?_, [], ⟨by simp, .inr ⟨w.heap.size, 0, #[], rfl, Nat.zero_le _, heap_alloc_new w _, Nat.le_refl _, Nat.zero_le _, by simp, by simp⟩⟩, Reps.none _ _⟩, fun k hk => by rw [hk]; simp⟩ (fun k hk => by rw [hk]; exact Nat.le_refl _)⟩
      · unfold execOp; rw [hop]
        simp [Instr.buildSlice, run_underlying hu, sizeOf, typeInfo, hj, Instr.fill, newRow, map_range0]
      · have : w.heap.size = k := by simpa [Value.ownBlock] using hk
        exact this.symm) h hD
/-- A literal of one element of one cell. -/
theorem Jl.lit1 {u z0 : Value} (hw : wants ops L o = some true) (hop : o.op = .buildSlice T 1 #[(0, x)]) (hd : o.dst = some d) (hN : Nat.blt d N = true) (hx : ev L x = some u) (hT : ElT P T e 1) (hz : ZeroT P e [z0]) (hu1 : u.oneCell' = true)
    (h : ∀ g, Jl P N B D (k + 1) ops Q rest ((d, .slice (some ⟨g, 0, none⟩) 1 1) :: L) (.box g e [u] :: its) ps) (hD : D.takes k = false := by rfl) : Jl P N B D k ops Q (o :: rest) L its ps :=
  Jl.e (fun g : Nat => .slice (some ⟨g, 0, none⟩) 1 1) (fun g => .box g e [u] :: its) (fun _ => ps) hw hd hN (fun a w hf hW => by
    have hTo := hT.out
    unfold elT at hTo
    obtain ⟨z, hz1, hz2⟩ := run_zeroT (w := w) hz.out
    have hzc : z.cells = #[z0] := by apply Array.toList_inj.1; rw [hz2]
    have huc : u.cells = #[u] := by cases u <;> first | rfl | cases hu1
    cases hu : P.underlying T with
    | none => simp [hu] at hTo
    | some dd =>
      cases dd <;> simp [hu] at hTo
      rename_i e2
      obtain ⟨j, hj, rfl, hj1⟩ := hTo
      refine ⟨w.heap.size, w.alloc (.cells #[u] e2), ?_, fun _ => below_alloc (Below.refl _ _) _, hW.alloc e2 #[u]⟩
      unfold execOp; rw [hop]
      simp [Instr.buildSlice, run_underlying hu, sizeOf, typeInfo, hj, hj1, hz1, hzc, Instr.fill, newRow, hf.ev hx, huc, map_range1]) h hD
end
end Go.Proofs.YtblihmohgfmpgaaW.SL

namespace Go.Proofs.Ytblihmohgfmpgaa.WK
open Go Go.RowKit Go.Proofs.Ytblihmohgfmpgaa.Q Go.Proofs.YtblihmohgfmpgaaW.PrintWords Go.Proofs.YtblihmohgfmpgaaW.Pl Go.Proofs.YtblihmohgfmpgaaW.SL
set_option linter.unusedSimpArgs false
set_option linter.unusedVariables false
set_option maxRecDepth 100000
namespace PSch
theorem agg69 : AggT Try.prog 69 4 := ⟨by kernel_rfl⟩
theorem agg35 : AggT Try.prog 35 3 := ⟨by kernel_rfl⟩
theorem sz69 : SzT Try.prog 69 4 := ⟨by kernel_rfl⟩
theorem sc3 : ScT Try.prog 3 := ⟨by kernel_rfl⟩
theorem fld69_0 : FldT Try.prog 69 0 0 := ⟨by kernel_rfl⟩
theorem zero69 : ZeroT Try.prog 69 [.int .i64 0, .slice none 0 0, .int .i64 0, .int .i64 0] := ⟨by kernel_rfl⟩
theorem zero3 : ZeroT Try.prog 3 [.int .i64 0] := ⟨by kernel_rfl⟩
theorem el25 : ElT Try.prog 25 69 4 := ⟨by kernel_rfl⟩
theorem el29 : ElT Try.prog 29 3 1 := ⟨by kernel_rfl⟩
theorem en69 : Ent Try.prog 69 := ⟨enters_of Try.func69 (by kernel_rfl) rfl⟩
theorem en75 : Ent Try.prog 75 := ⟨enters_of Try.func75 (by kernel_rfl) rfl⟩
theorem ap29 : ApT Try.prog 29 3 1 8 := apT_of (z := .int .i64 0) Try.underlying29 (by kernel_rfl) rfl (by decide)
set_option maxHeartbeats 2000000 in
theorem no (A0 : Option Addr) (c0 : Nat) (xs : List S69) (m : List Int) (a b : Int) (A1 : Option Addr) (c1 : Nat) (w0 : World) (hr0 : Kd.C k69 w0 A0 xs.length xs) (hc0 : xs.length ≤ c0) (hr1 : Kd.C (Kd.int .i64) w0 A1 m.length m) (hc1 : m.length ≤ c1)
    (kb : Nat) (hb : impl_areCompared.f kb xs m a b = some false) : Calls Try.prog 37 #[.slice A0 xs.length c0, .agg #[.slice A1 m.length c1, .int .i64 a, .int .i64 b]] w0 fun e w' => ∃ v, e = .returned (.tuple #[v, .bool false]) ∧ Kd.R (Kd.int .i64) 3 w' w0.heap.size (fun _ => True) v [] ∧ Below w0.heap.size w0 w' := by
  let Rr : Ending → World → Prop := fun e w' => ∃ v, e = .returned (.tuple #[v, .bool false]) ∧ Kd.R (Kd.int .i64) 3 w' w0.heap.size (fun _ => True) v [] ∧ Below w0.heap.size w0 w'
  refine enterW (args := [.slice A0 xs.length c0, .agg #[.slice A1 m.length c1, .int .i64 a, .int .i64 b]]) [fun W => Kd.C k69 W A0 xs.length xs, fun W => Kd.C (Kd.int .i64) W A1 m.length m] (fun p hp W hb => by
    rcases List.mem_cons.1 hp with rfl | hp
    · exact Kd.C_below hr0 hb
    · rw [List.mem_singleton.1 hp]; exact Kd.C_below hr1 hb) Try.func37 rfl rfl ?_
  have comp_ : ∀ w its, WS (base w0) w its [fun W => Kd.C k69 W A0 xs.length xs, fun W => Kd.C (Kd.int .i64) W A1 m.length m] → Calls Try.prog 69 [.slice A0 xs.length c0, .agg #[.slice A1 m.length c1, .int .i64 a, .int .i64 b]].toArray w fun e w' => e = .returned (.bool false) ∧ Below w.heap.size w w' := fun w its hW =>
    impl_areCompared.calls kb A0 c0 xs A1 c1 m a b false w (hW.at 0 rfl) hc0 (hW.at 1 rfl) hc1 hb
  show Cj Try.prog _ _ _ (bodyPost Try.prog Try.f37 Rr) _ _ _
  repeat (first
    | (apply gateO; first
      | refine Jl.yd (Y.mv rfl rfl) rfl rfl rfl ?_
      | refine Jl.yd (Y.asg rfl rfl) rfl rfl rfl ?_
      | refine Jl.yd (Y.ext rfl rfl rfl) rfl rfl rfl ?_
      | refine Jl.yd (Y.pickT rfl rfl rfl) rfl rfl rfl ?_
      | refine Jl.yd (Y.pickF rfl rfl rfl) rfl rfl rfl ?_
      | refine Jl.off rfl rfl rfl ?_
      | refine Jl.yd (Y.cmpF rfl rfl rfl rfl (by omega)) rfl rfl rfl ?_
      | refine Jl.yd (Y.cmpT rfl rfl rfl rfl (by omega)) rfl rfl rfl ?_
      | refine Jl.yd (Y.neqB rfl rfl rfl Try.underlying4) rfl rfl rfl ?_
      | refine Jl.yd (Y.cmp rfl rfl rfl rfl) rfl rfl rfl ?_
      | refine Jl.yd (Y.not rfl rfl) rfl rfl rfl ?_
      | refine Jl.yd (Y.arithN rfl rfl rfl rfl (by omega)) rfl rfl rfl ?_
      | refine Jl.yd (Y.arith64 rfl rfl rfl rfl) rfl rfl rfl ?_
      | refine Jl.yd (Y.loadA rfl rfl agg35 (by repeat (first | exact .head _ | refine .tail _ ?_)) (by rfl)) rfl rfl rfl ?_
      | refine Jl.box (zs := [.slice A1 m.length c1, .int .i64 a, .int .i64 b]) rfl rfl rfl rfl rfl (by rfl) (fun gp => ?_)
      | refine Jl.call1 (v := .bool false) rfl rfl rfl rfl en69 rfl (fun w hW => comp_ w _ hW) ?_
      | refine Jl.splitG rfl rfl (fun h => ?_) (fun h => ?_))
    | (apply gateE; first
      | refine Jl.nil (Ej.go ?_ (fun _ _ h => h))
      | (refine Jl.nil (Ej.back (fun _ _ h => h) (by repeat (first | exact .refl | apply DropTo.tail)) ?_); repeat (first | exact trivial | refine ⟨rfl, ?_⟩)))
    | (apply gateC; first
      | refine Cj.ret rfl (Ej.out2 (P := Try.prog) (fn := Try.f37) (R := Rr) (fun _ _ h => h) rfl rfl rfl (fun w' hW => ?_))
      | refine Cj.condF rfl rfl (Cj.skip rfl (Ej.go ?_ (fun _ _ h => h)))
      | (refine Cj.condF rfl rfl (Cj.skip rfl (Ej.back (fun _ _ h => h) (by repeat (first | exact .refl | apply DropTo.tail)) ?_)); repeat (first | exact trivial | refine ⟨rfl, ?_⟩))
      | refine Cj.condF rfl rfl ?_
      | refine Cj.condT rfl rfl ?_
      | refine Cj.exit rfl (Ej.go ?_ (fun _ _ h => h))
      | refine Cj.cond rfl rfl (fun h => ?_) (fun h => ?_)
      | refine Cj.skip rfl (Ej.go ?_ (fun _ _ h => h))
      | (refine Cj.skip rfl (Ej.back (fun _ _ h => h) (by repeat (first | exact .refl | apply DropTo.tail)) ?_); repeat (first | exact trivial | refine ⟨rfl, ?_⟩))
      | refine Cj.seq rfl ?_
      | refine Cj.region rfl ?_))
  exact ⟨_, rfl, Kd.R_nil _ _ _ _ _, hW.below⟩
set_option maxHeartbeats 8000000 in
/-- impl.PossibleSchools at what is valid. -/
theorem yes (P0 : Nat → Prop) (A0 : Option Addr) (c0 : Nat) (xs : List S69) (m : List Int) (a b : Int) (A1 : Option Addr) (c1 : Nat) (pos : S69 → Bool) (w0 : World) (hs0 : Kd.V k69 69 w0 w0.heap.size (fun k => P0 k) (.slice A0 xs.length c0) xs) (hr1 : Kd.C (Kd.int .i64) w0 A1 m.length m) (hc1 : m.length ≤ c1) (hn : xs.length ≤ 1048576)
    (kb : Nat) (hb : impl_areCompared.f kb xs m a b = some true) (hpos : ∀ x, x ∈ xs → ∃ k, impl_isPossible.f k x.f0 x.f1 x.f2 x.f3 m a b = some (pos x)) :
    Calls Try.prog 37 #[.slice A0 xs.length c0, .agg #[.slice A1 m.length c1, .int .i64 a, .int .i64 b]] w0 fun e w' => ∃ v, e = .returned (.tuple #[v, .bool true]) ∧ Kd.R (Kd.int .i64) 3 w' w0.heap.size (fun _ => True) v ((xs.filter pos).map (·.f0)) ∧ Below w0.heap.size w0 w' := by
  obtain ⟨ys, hys⟩ : ∃ ys, ys = xs.filter pos := ⟨_, rfl⟩
  have hyl : ys.length ≤ xs.length := by rw [hys]; exact List.length_filter_le _ _
  rw [← hys]
  let Rr : Ending → World → Prop := fun e w' => ∃ v, e = .returned (.tuple #[v, .bool true]) ∧ Kd.R (Kd.int .i64) 3 w' w0.heap.size (fun _ => True) v (ys.map (·.f0)) ∧ Below w0.heap.size w0 w'
  let P1 : Nat → Prop := fun k => P0 k ∧ k < w0.heap.size
  have hv : Kd.V k69 69 w0 0 P1 (.slice A0 xs.length c0) xs := Kd.V_bound hs0
  refine enterW (args := [.slice A0 xs.length c0, .agg #[.slice A1 m.length c1, .int .i64 a, .int .i64 b]]) [fun W => Kd.V k69 69 W 0 P1 (.slice A0 xs.length c0) xs, fun W => Kd.C (Kd.int .i64) W A1 m.length m] (fun p hp W hb => by
    rcases List.mem_cons.1 hp with rfl | hp
    · exact Kd.V_below hv hb
    · rw [List.mem_singleton.1 hp]; exact Kd.C_below hr1 hb) Try.func37 rfl rfl ?_
  have comp_ : ∀ w its, WS (base w0) w its [fun W => Kd.V k69 69 W 0 P1 (.slice A0 xs.length c0) xs, fun W => Kd.C (Kd.int .i64) W A1 m.length m] → Calls Try.prog 69 [.slice A0 xs.length c0, .agg #[.slice A1 m.length c1, .int .i64 a, .int .i64 b]].toArray w fun e w' => e = .returned (.bool true) ∧ Below w.heap.size w w' := fun w its hW =>
    impl_areCompared.calls kb A0 c0 xs A1 c1 m a b true w (Kd.V_reads' (hW.at 0 rfl)).2.2 (Kd.V_reads' (hW.at 0 rfl)).2.1 (hW.at 1 rfl) hc1 hb
  have poss_ : ∀ w its, WS (base w0) w its [fun W => Kd.V k69 69 W 0 P1 (.slice A0 xs.length c0) xs, fun W => Kd.C (Kd.int .i64) W A1 m.length m] → Calls Try.prog 75 [.slice A0 xs.length c0, .agg #[.slice A1 m.length c1, .int .i64 a, .int .i64 b]].toArray w fun e' w' => ∃ v, e' = .returned v ∧ Kd.N k69 69 w' w.heap.size (fun k => P1 k ∨ w.heap.size ≤ k) v ys ∧ Below w.heap.size w w' := fun w its hW => by
    rw [hys]
    exact Poss.calls P1 A0 c0 xs m a b A1 c1 pos w (hW.at 0 rfl) (hW.at 1 rfl) hc1 hn hpos
  show Cj Try.prog _ _ _ (bodyPost Try.prog Try.f37 Rr) _ _ _
  repeat (first
    | (apply gateO; first
      | refine Jl.yd (Y.mv rfl rfl) rfl rfl rfl ?_
      | refine Jl.yd (Y.asg rfl rfl) rfl rfl rfl ?_
      | refine Jl.yd (Y.ext rfl rfl rfl) rfl rfl rfl ?_
      | refine Jl.yd (Y.pickT rfl rfl rfl) rfl rfl rfl ?_
      | refine Jl.yd (Y.pickF rfl rfl rfl) rfl rfl rfl ?_
      | refine Jl.off rfl rfl rfl ?_
      | refine Jl.yd (Y.cmpF rfl rfl rfl rfl (by omega)) rfl rfl rfl ?_
      | refine Jl.yd (Y.cmpT rfl rfl rfl rfl (by omega)) rfl rfl rfl ?_
      | refine Jl.yd (Y.neqB rfl rfl rfl Try.underlying4) rfl rfl rfl ?_
      | refine Jl.yd (Y.cmp rfl rfl rfl rfl) rfl rfl rfl ?_
      | refine Jl.yd (Y.not rfl rfl) rfl rfl rfl ?_
      | refine Jl.yd (Y.arithN rfl rfl rfl rfl (by omega)) rfl rfl rfl ?_
      | refine Jl.yd (Y.arith64 rfl rfl rfl rfl) rfl rfl rfl ?_
      | refine Jl.yd (Y.loadA rfl rfl agg35 (by repeat (first | exact .head _ | refine .tail _ ?_)) (by rfl)) rfl rfl rfl ?_
      | refine Jl.yd (Y.lenS Try.underlying25 rfl rfl rfl) rfl rfl rfl ?_
      | refine Jl.box (zs := [.slice A1 m.length c1, .int .i64 a, .int .i64 b]) rfl rfl rfl rfl rfl (by rfl) (fun gp => ?_)
      | refine Jl.lit0 (Kd.int .i64) rfl rfl rfl rfl el29 (fun gr => ?_)
      | refine Jl.call1 (v := .bool true) rfl rfl rfl rfl en69 rfl (fun w hW => comp_ w _ hW) ?_
      | refine Jl.callN (w0 := w0) (P0 := P1) (fun k hk => hk.2) (dk := k69) (e := 69) (xs := ys) rfl rfl rfl rfl en75 rfl (fun w hW => poss_ w _ hW) (fun A c rows ok hc hl hform hok => ?_)
      | refine Jl.splitG rfl rfl (fun h => ?_) (fun h => ?_))
    | (apply gateE; first
      | refine Jl.nil (Ej.go ?_ (fun _ _ h => h))
      | (refine Jl.nil (Ej.back (fun _ _ h => h) (by repeat (first | exact .refl | apply DropTo.tail)) ?_); repeat (first | exact trivial | refine ⟨rfl, ?_⟩)))
    | (apply gateC; first
      | refine Cj.condF rfl rfl (Cj.skip rfl (Ej.go ?_ (fun _ _ h => h)))
      | (refine Cj.condF rfl rfl (Cj.skip rfl (Ej.back (fun _ _ h => h) (by repeat (first | exact .refl | apply DropTo.tail)) ?_)); repeat (first | exact trivial | refine ⟨rfl, ?_⟩))
      | refine Cj.condF rfl rfl ?_
      | refine Cj.condT rfl rfl ?_
      | refine Cj.exit rfl (Ej.go ?_ (fun _ _ h => h))
      | refine Cj.cond rfl rfl (fun h => ?_) (fun h => ?_)
      | refine Cj.skip rfl (Ej.go ?_ (fun _ _ h => h))
      | (refine Cj.skip rfl (Ej.back (fun _ _ h => h) (by repeat (first | exact .refl | apply DropTo.tail)) ?_); repeat (first | exact trivial | refine ⟨rfl, ?_⟩))
      | refine Cj.seq rfl ?_
      | refine Cj.region rfl ?_))
  refine Cj.ws (ι := Unit) (fun _ => True) (fun _ => [.row (Kd.int .i64) 3 0 (.slice (some ⟨gr, 0, none⟩) ([] : List Int).length 0) ([] : List Int), .row (Kd.raw k69.sz) 69 0 (.slice A ys.length c) rows, .box gp 35 [.slice A1 m.length c1, .int .i64 a, .int .i64 b]]) (fun _ => [fun W => ∀ (j : Nat) (x : S69) (us : List Value), ys[j]? = some x → rows[j]? = some us → Kd.FK k69 W ok x us, fun W => Kd.V k69 69 W 0 P1 (.slice A0 xs.length c0) xs, fun W => Kd.C (Kd.int .i64) W A1 m.length m]) (fun w hW => ⟨(), trivial, hW.swap⟩) (fun _ _ => ?_)
  refine Cj.block rfl ?_
  refine Cj.loop (ι := Nat × (Option Addr × Nat)) (fun q => q.1 ≤ ys.length) (fun q => [(3, .pointer (some ⟨gp, 0, none⟩)), (6, .slice q.2.1 ((ys.take q.1).map (·.f0)).length q.2.2), (16, .slice A ys.length c), (17, .int .i64 (ys.length : Int)), (18, .int .i64 (q.1 : Int))])
    (fun q => [.row (Kd.int .i64) 3 0 (.slice q.2.1 ((ys.take q.1).map (·.f0)).length q.2.2) ((ys.take q.1).map (·.f0)), .row (Kd.raw k69.sz) 69 0 (.slice A ys.length c) rows, .box gp 35 [.slice A1 m.length c1, .int .i64 a, .int .i64 b]]) (fun _ => [fun W => ∀ (j : Nat) (x : S69) (us : List Value), ys[j]? = some x → rows[j]? = some us → Kd.FK k69 W ok x us, fun W => Kd.V k69 69 W 0 P1 (.slice A0 xs.length c0) xs, fun W => Kd.C (Kd.int .i64) W A1 m.length m]) (fun q => ys.length - q.1) rfl (0, some ⟨gr, 0, none⟩, 0) (Nat.zero_le _) ⟨rfl, rfl, rfl, rfl, rfl, trivial⟩ rfl (fun p hp => hp) (fun q hi => ?_)
  obtain ⟨i, Ar, cr⟩ := q
  dsimp only at hi ⊢
  by_cases hlt : i < ys.length
  · obtain ⟨g2, rfl⟩ := hform.resolve_left (by omega)
    obtain ⟨x, hx⟩ : ∃ x, ys[i]? = some x := ⟨_, List.getElem?_eq_getElem hlt⟩
    obtain ⟨u, hu⟩ : ∃ u, rows[i]? = some u := ⟨_, List.getElem?_eq_getElem (by omega)⟩
    have htk : (ys.take (i + 1)).map (·.f0) = (ys.take i).map (·.f0) ++ [x.f0] := by rw [List.take_add_one, hx, List.map_append]; rfl
    have hln : ((ys.take i).map (·.f0)).length = i := by rw [List.length_map, List.length_take]; omega
    refine Cj.ws (ι := Option Addr × Nat) (fun q => u = [.int .i64 x.f0, .slice q.1 x.f1.length q.2, .int .i64 x.f2, .int .i64 x.f3]) (fun _ => [.row (Kd.int .i64) 3 0 (.slice Ar ((ys.take i).map (·.f0)).length cr) ((ys.take i).map (·.f0)), .row (Kd.raw k69.sz) 69 0 (.slice (some ⟨g2, 0, none⟩) ys.length c) rows, .box gp 35 [.slice A1 m.length c1, .int .i64 a, .int .i64 b]]) (fun q => [fun W => ∀ (j : Nat) (x : S69) (us : List Value), ys[j]? = some x → rows[j]? = some us → Kd.FK k69 W ok x us, fun W => Kd.V k69 69 W 0 P1 (.slice A0 xs.length c0) xs, fun W => Kd.C (Kd.int .i64) W A1 m.length m]) (fun w hW => ?_) (fun q hq => ?_)
    · obtain ⟨A', c', he, hl', _⟩ := k69_open (Kd.FK_now (hW.at 0 rfl i x u hx hu))
      exact ⟨(A', c'), he, hW⟩
    obtain ⟨A', c'⟩ := q
    dsimp only at hq ⊢
    have hgd : rows.getD ((i : Int)).toNat [] = [.int .i64 x.f0, .slice A' x.f1.length c', .int .i64 x.f2, .int .i64 x.f3] := by
      rw [Int.toNat_natCast, List.getD_eq_getElem?_getD, hu, ← hq]; rfl
    repeat (first
    | (apply gateO; first
      | refine Jl.yd (Y.mv rfl rfl) rfl rfl rfl ?_
      | refine Jl.yd (Y.asg rfl rfl) rfl rfl rfl ?_
      | refine Jl.yd (Y.ext rfl rfl rfl) rfl rfl rfl ?_
      | refine Jl.yd (Y.pickT rfl rfl rfl) rfl rfl rfl ?_
      | refine Jl.yd (Y.pickF rfl rfl rfl) rfl rfl rfl ?_
      | refine Jl.off rfl rfl rfl ?_
      | refine Jl.yd (Y.cmpF rfl rfl rfl rfl (by omega)) rfl rfl rfl ?_
      | refine Jl.yd (Y.cmpT rfl rfl rfl rfl (by omega)) rfl rfl rfl ?_
      | refine Jl.yd (Y.neqB rfl rfl rfl Try.underlying4) rfl rfl rfl ?_
      | refine Jl.yd (Y.cmp rfl rfl rfl rfl) rfl rfl rfl ?_
      | refine Jl.yd (Y.not rfl rfl) rfl rfl rfl ?_
      | refine Jl.yd (Y.arithN rfl rfl rfl rfl (by omega)) rfl rfl rfl ?_
      | refine Jl.yd (Y.arith64 rfl rfl rfl rfl) rfl rfl rfl ?_
      | refine Jl.yd (Y.loadA rfl rfl agg35 (by repeat (first | exact .head _ | refine .tail _ ?_)) (by rfl)) rfl rfl rfl ?_
      | refine Jl.yd (Y.loadA rfl rfl agg69 (by repeat (first | exact .head _ | refine .tail _ ?_)) (by rfl)) rfl rfl rfl ?_
      | refine Jl.yd (Y.load1 rfl rfl sc3 (by repeat (first | exact .head _ | refine .tail _ ?_)) (by rfl)) rfl rfl rfl ?_
      | refine Jl.yd (Y.fld0 rfl rfl fld69_0) rfl rfl rfl ?_
      | refine Jl.alloc rfl rfl rfl rfl zero69 (fun g => ?_)
      | refine Jl.storeA rfl rfl rfl rfl rfl sz69 (by repeat (first | exact .z | apply SetAt.s)) (by rfl) (by rfl) ?_
      | refine Jl.yd (Y.idx0 rfl rfl rfl el25 (by omega) (by omega)) rfl rfl rfl ?_
      | refine Jl.yd (Y.loadRA [] rfl rfl agg69 (by repeat (first | exact .head _ | refine .tail _ ?_)) (i : Int) (by omega) (by omega) (by rfl) (by rfl) (fun w ok cs h => (raw_cells h).trans hgd)) rfl rfl rfl ?_
      | refine Jl.lit1 rfl rfl rfl rfl rfl el29 zero3 rfl (fun gx => ?_)
      | refine Jl.app (dk := Kd.int .i64) (xs := (ys.take i).map (·.f0)) x.f0 (fun _ => False) rfl rfl rfl rfl rfl rfl ap29 (by repeat (first | exact .head _ | refine .tail _ ?_)) rfl (fun w => rfl) (fun u hu => by rw [List.mem_singleton.1 hu]; rfl) (by repeat (first | exact .z | apply OutAt.s)) (by omega) (by omega) (fun Ar' cr' hcr' => ?_)
      | refine Jl.splitG rfl rfl (fun h => ?_) (fun h => ?_))
    | (apply gateE; first
      | refine Jl.nil (Ej.go ?_ (fun _ _ h => h))
      | (refine Jl.nil (Ej.back (fun _ _ h => h) (by repeat (first | exact .refl | apply DropTo.tail)) ?_); repeat (first | exact trivial | refine ⟨rfl, ?_⟩)))
    | (apply gateC; first
      | refine Cj.block rfl ?_
      | refine Cj.condF rfl rfl (Cj.skip rfl (Ej.go ?_ (fun _ _ h => h)))
      | (refine Cj.condF rfl rfl (Cj.skip rfl (Ej.back (fun _ _ h => h) (by repeat (first | exact .refl | apply DropTo.tail)) ?_)); repeat (first | exact trivial | refine ⟨rfl, ?_⟩))
      | refine Cj.condF rfl rfl ?_
      | refine Cj.condT rfl rfl ?_
      | refine Cj.exit rfl (Ej.go ?_ (fun _ _ h => h))
      | refine Cj.cond rfl rfl (fun h => ?_) (fun h => ?_)
      | refine Cj.skip rfl (Ej.go ?_ (fun _ _ h => h))
      | (refine Cj.skip rfl (Ej.back (fun _ _ h => h) (by repeat (first | exact .refl | apply DropTo.tail)) ?_); repeat (first | exact trivial | refine ⟨rfl, ?_⟩))
      | refine Cj.seq rfl ?_
      | refine Cj.region rfl ?_))
    refine Jl.nil (Ej.ws (ι := Unit) (fun _ => True) (fun _ => [.row (Kd.int .i64) 3 0 (.slice Ar' ((ys.take i).map (·.f0) ++ [x.f0]).length cr') ((ys.take i).map (·.f0) ++ [x.f0]), .row (Kd.raw k69.sz) 69 0 (.slice (some ⟨g2, 0, none⟩) ys.length c) rows, .box gp 35 [.slice A1 m.length c1, .int .i64 a, .int .i64 b]]) (fun _ => [fun W => ∀ (j : Nat) (x : S69) (us : List Value), ys[j]? = some x → rows[j]? = some us → Kd.FK k69 W ok x us, fun W => Kd.V k69 69 W 0 P1 (.slice A0 xs.length c0) xs, fun W => Kd.C (Kd.int .i64) W A1 m.length m]) (fun w hW => by
      have h := hW.drop (n := 1) rfl
      have h2 := WS.drop (n := 1) h rfl
      exact ⟨(), trivial, h2⟩) (fun _ _ => ?_))
    refine Ej.cut (ι := Nat × (Option Addr × Nat)) _ _ _ _ (fun _ _ h => h) (i + 1, Ar', cr') ⟨by dsimp only; omega, by dsimp only; omega⟩ ⟨rfl, ?_, rfl, rfl, rfl, trivial⟩ ?_ (fun p hp => hp)
    · show some (Value.slice Ar' ((ys.take i).map (·.f0) ++ [x.f0]).length cr') = some (.slice Ar' ((ys.take (i + 1)).map (·.f0)).length cr')
      rw [htk]
    · dsimp only
      rw [htk]
  · obtain rfl : i = ys.length := by omega
    repeat (first
    | (apply gateO; first
      | refine Jl.yd (Y.mv rfl rfl) rfl rfl rfl ?_
      | refine Jl.yd (Y.asg rfl rfl) rfl rfl rfl ?_
      | refine Jl.yd (Y.ext rfl rfl rfl) rfl rfl rfl ?_
      | refine Jl.yd (Y.pickT rfl rfl rfl) rfl rfl rfl ?_
      | refine Jl.yd (Y.pickF rfl rfl rfl) rfl rfl rfl ?_
      | refine Jl.off rfl rfl rfl ?_
      | refine Jl.yd (Y.cmpF rfl rfl rfl rfl (by omega)) rfl rfl rfl ?_
      | refine Jl.yd (Y.cmpT rfl rfl rfl rfl (by omega)) rfl rfl rfl ?_
      | refine Jl.yd (Y.neqB rfl rfl rfl Try.underlying4) rfl rfl rfl ?_
      | refine Jl.yd (Y.cmp rfl rfl rfl rfl) rfl rfl rfl ?_
      | refine Jl.yd (Y.not rfl rfl) rfl rfl rfl ?_
      | refine Jl.yd (Y.arithN rfl rfl rfl rfl (by omega)) rfl rfl rfl ?_
      | refine Jl.yd (Y.arith64 rfl rfl rfl rfl) rfl rfl rfl ?_
      | refine Jl.splitG rfl rfl (fun h => ?_) (fun h => ?_))
    | (apply gateE; first
      | refine Jl.nil (Ej.go ?_ (fun _ _ h => h))
      | (refine Jl.nil (Ej.back (fun _ _ h => h) (by repeat (first | exact .refl | apply DropTo.tail)) ?_); repeat (first | exact trivial | refine ⟨rfl, ?_⟩)))
    | (apply gateC; first
      | refine Cj.ret rfl (Ej.out2 (P := Try.prog) (fn := Try.f37) (R := Rr) (fun _ _ h => h) rfl rfl rfl (fun w' hW => ?_))
      | refine Cj.condF rfl rfl (Cj.skip rfl (Ej.go ?_ (fun _ _ h => h)))
      | (refine Cj.condF rfl rfl (Cj.skip rfl (Ej.back (fun _ _ h => h) (by repeat (first | exact .refl | apply DropTo.tail)) ?_)); repeat (first | exact trivial | refine ⟨rfl, ?_⟩))
      | refine Cj.condF rfl rfl ?_
      | refine Cj.condT rfl rfl ?_
      | refine Cj.exit rfl (Ej.go ?_ (fun _ _ h => h))
      | refine Cj.cond rfl rfl (fun h => ?_) (fun h => ?_)
      | refine Cj.skip rfl (Ej.go ?_ (fun _ _ h => h))
      | (refine Cj.skip rfl (Ej.back (fun _ _ h => h) (by repeat (first | exact .refl | apply DropTo.tail)) ?_); repeat (first | exact trivial | refine ⟨rfl, ?_⟩))
      | refine Cj.seq rfl ?_
      | refine Cj.region rfl ?_))
    have hb := hW.below
    obtain ⟨h1, S, ⟨Aa, C1, g1, g2, g3, g4⟩, h3, h4⟩ := hW
    have hown : ∀ k, (Value.slice Ar ((ys.take ys.length).map (·.f0)).length cr).ownBlock = some k → w0.heap.size ≤ k := fun k hk => (h3 k ((g3 k).2 (.inl (g1.1.1 k hk)))).resolve_left (fun h => h)
    have hR : (Kd.int .i64).R 3 w' w0.heap.size (fun _ => True) (.slice Ar ((ys.take ys.length).map (·.f0)).length cr) ((ys.take ys.length).map (·.f0)) := Kd.R_mono (Kd.R_raise (b := 0) (fun _ _ _ _ h => h) g1.1 hown) (fun _ _ => trivial)
    rw [List.take_length] at hR ⊢
    exact ⟨_, rfl, hR, hb⟩
end PSch
end Go.Proofs.Ytblihmohgfmpgaa.WK

namespace Go.Proofs.Ytblihmohgfmpgaa.M
open Go.RowKit Go.Proofs.Ytblihmohgfmpgaa.Q Go.Proofs.YtblihmohgfmpgaaW.PrintWords Go.Proofs.YtblihmohgfmpgaaW.PrintLast Go.Proofs.YtblihmohgfmpgaaW.Pl Classical
set_option linter.unusedSimpArgs false
set_option linter.unusedVariables false

theorem markPiece (m : List Int) (a b : Int) (hm : m.length ≤ 1048576) (x : Int) (h0 : 0 ≤ x) (h1 : x ≤ 4398046511104) : ∃ p : Int × List Int, ¬ p.1 < 0 ∧ Ev (fun k => laws_markPiece.f k m a b x) p := by
  obtain ⟨n, rfl⟩ : ∃ n : Nat, x = (n : Int) := ⟨x.toNat, by omega⟩
  obtain ⟨p, e1, _, hE⟩ := markIntsFrom m hm n (by omega)
  refine ⟨p, by rw [e1]; omega, ?_⟩
  unfold laws_markPiece.f
  exact Ev.bind hE (Ev.now _)
end Go.Proofs.Ytblihmohgfmpgaa.M

namespace Go.Proofs.Ytblihmohgfmpgaa.Wk
open Go Go.RowKit Go.Proofs.Ytblihmohgfmpgaa.Q Go.Proofs.Ytblihmohgfmpgaa.M Go.Proofs.YtblihmohgfmpgaaW.PrintWords Go.Proofs.YtblihmohgfmpgaaW.Pl Go.Proofs.Ytblihmohgfmpgaa.WK
set_option linter.unusedSimpArgs false
set_option linter.unusedVariables false
/-- For every schools and piece: the program's possible schools are the reference's, and nothing handed in is written. -/
theorem FnExactPossibleSchools : laws_FnExactPossibleSchools.Goal := by
  intro l0 m a b A0 c0 A1 c1 w hr0 hc0 hr1 hc1 ⟨hZ, hG⟩ hq0
  have hGl : ∀ x ∈ l0, x.f1.length ≤ maxLen := fun x hx => by have := hG x hx; unfold g68 at this; exact this.2.1.1
  have hml : m.length ≤ maxLen := by have := hq0; unfold g31 at this; exact this.1.1
  obtain ⟨r, hrE, hc⟩ := szSchools l0 hZ hGl
  obtain ⟨kz, hz⟩ := hrE.rounds
  rcases hc with hc | ⟨g1, g2, g3, g4⟩
  · exact WKMPW.walkA l0 m a b A0 c0 A1 c1 w hr0 hc0 hr1 hc1 kz r hz hc
  obtain ⟨r2, hp, hc2⟩ := szPiece m a b r hml ⟨g1, g2⟩
  rcases hc2 with hc2 | ⟨d1, d2⟩
  · exact WKMPW.walkB l0 m a b A0 c0 A1 c1 w hr0 hc0 hr1 hc1 kz r r2 hz (by omega) hp hc2
  have hl : (l0.map cvS).length ≤ 1048576 := by simp; exact g3
  have hg : ∀ i, i < (l0.map cvS).length → (nth (l0.map cvS) i z69).f1.length ≤ 1048576 := fun i hi => by
    have hi' : i < l0.length := by simpa using hi
    rw [nth_map (z := z68) hi']
    exact g4 i hi'
  obtain ⟨kt, ht⟩ := (toSchools l0 g3 g4).rounds
  generalize l0.map cvS = l at hl hg ht
  obtain ⟨kq, hq⟩ := (eqSchools l hl hg).rounds
  obtain ⟨kp, htp⟩ := (toPiece m a b d2).rounds
  obtain ⟨kx, hx⟩ := (eqPiece m a b d2).rounds
  obtain ⟨kb, hb⟩ := (iBoth l m a b hl).rounds
  have hS := sPossible l m a b hl hg d2
  have hk := kA_b l 1 hg l.length (Nat.le_refl _)
  obtain ⟨⟨r3, m'⟩, hr3, hmE⟩ := markPiece m a b d2 (kA l 1 l.length) (by omega) (by omega)
  obtain ⟨kn, hmp⟩ := hmE.rounds
  have go : ∀ (q : List Int) (qb : Bool), q.length ≤ 1048576 → (∃ ks, spec_PossibleSchools.f ks l m a b = some (q, qb)) →
      (∀ (A0 : Option Addr) (c0 : Nat) (A1 : Option Addr) (c1 : Nat) (w : World), (∃ P0 : Nat → Prop, Kd.V k69 69 w w.heap.size (fun k => P0 k) (.slice A0 l.length c0) l) → Kd.C (Kd.int .i64) w A1 m.length m → m.length ≤ c1 →
      Calls Try.prog 37 #[.slice A0 l.length c0, .agg #[.slice A1 m.length c1, .int .i64 a, .int .i64 b]] w fun e w' => ∃ v, e = .returned (.tuple #[v, .bool qb]) ∧ Kd.R (Kd.int .i64) 3 w' w.heap.size (fun _ => True) v q ∧ Below w.heap.size w w') →
      Calls Try.prog 9 #[.slice A0 l0.length c0, .agg #[.slice A1 m.length c1, .int .i64 a, .int .i64 b]] w fun e w' => e = .returned (.bool true) ∧ Below w.heap.size w w' := by
    intro q qb hql ⟨ks, hs⟩ hI
    obtain ⟨ke, he⟩ := (eqInts q hql).rounds
    obtain ⟨km, hmk⟩ := (markInts q hql).rounds
    obtain ⟨kh, hhe⟩ := (heldInts q.length hql).rounds
    exact WKMPW.walkC l0 m a b A0 c0 A1 c1 w hr0 hc0 hr1 hc1 kz r r2 hz (by omega) hp (by omega) l kt ht hl hg kp htp q qb ks hs ke he kq hq kx hx kn r3 m' hmp hr3 km hmk kh hhe hI
  cases hbo : both l m a b with
  | false =>
    rw [hbo] at hb
    refine go [] false (by simp) (hS.1 hbo).rounds (fun A0 c0 A1 c1 w ⟨P0, hV⟩ hr1 hc1 => ?_)
    obtain ⟨_, v2, v3⟩ := Kd.V_reads' hV
    exact PSch.no A0 c0 l m a b A1 c1 w v3 v2 hr1 hc1 kb hb
  | true =>
    rw [hbo] at hb
    have p1 := (iParts hbo).1
    refine go _ true ?_ (hS.2 hbo).rounds (fun A0 c0 A1 c1 w ⟨P0, hV⟩ hr1 hc1 => PSch.yes P0 A0 c0 l m a b A1 c1 (posF m a b) w hV hr1 hc1 hl kb hb p1)
    rw [List.length_map]
    exact Nat.le_trans (List.length_filter_le _ _) hl
end Go.Proofs.Ytblihmohgfmpgaa.Wk

namespace Go.Proofs.Ytblihmohgfmpgaa.fnExactPossibleSchools
open Go.ChangeShapes Go.WideShapes Go.ChangeAt Go.RowKit Go.Proofs.Ytblihmohgfmpgaa.Q Go.Proofs.YtblihmohgfmpgaaW.Open Go.Proofs.YtblihmohgfmpgaaW.PrintWords
set_option linter.unusedVariables false
theorem own : ownKnob Try.prog.godebug = none := by kernel_rfl
theorem laidOut : laidOutB Try.prog = true := by kernel_rfl
set_option maxRecDepth 100000 in
theorem lifted (os : Os) (started : os.Started) (H : Type) (enc : TypeId × Value → H) :
    ReturnsInHanded {} Try.checked os 9 .any (Rows.fnExactPossibleSchoolsSpec.pre6 enc Try.prog Try.f9 Rows.fnExactPossibleSchoolsRow.domain false) (Rows.fnExactPossibleSchoolsSpec.post enc Try.prog Try.f9 false true false false) := by
  refine returnsInHanded_of_change_sized (C := Try.checked) own started (by kernel_rfl) Try.func9
    (ChangeSpec.witness6 (enc := enc) (C := Try.checked) false ⟨#[], #[.slice none 0 0, .agg #[.slice none 0 0, .int .i64 0, .int .i64 0]], []⟩ 8 (by kernel_rfl) (by kernel_rfl) (by kernel_rfl) (by kernel_rfl)) ?_
  intro W base args ds gs before hval0 hW hcnd hsz0 _
  have hval : ∀ (j : Nat) t v, Try.f9.params[j]? = some t → args[j]? = some v → Value.okWide Try.prog W .any base t v := hval0
  have hW' := hW
  obtain ⟨p, q, hA0, hV, rfl, hfz, hnd⟩ := hW
  have hA : DataW.TrodAll enc Try.prog W 0 (fun _ => true) true Try.f9.params.toList args.toList ds p := hA0
  rw [Try.params9] at hA hval
  obtain ⟨v0, vs0, d0, ds0, p0, q0, hargs, rfl, rfl, h0, r0⟩ := trodAll_cons hA
  obtain ⟨v1, vs1, d1, ds1, p1, q1, rfl, rfl, rfl, h1, r1⟩ := trodAll_cons r0
  obtain ⟨rfl, rfl, rfl⟩ := trodAll_nil r1
  obtain rfl : args = #[v0, v1] := by cases args; simp_all
  obtain ⟨rfl, rfl⟩ := trodVars_none hV
  have k0 := h0
  have lt0 : ∀ x ∈ p0, x.block < W.heap.size := by obtain ⟨m, hm⟩ := k0; exact DataW.trod_lt m _ _ _ hm
  obtain ⟨a0, len0, cap0, rfl⟩ := okWide_slice Try.underlying22 (hval 0 22 v0 rfl rfl)
  obtain ⟨fu0, hf0⟩ := h0
  obtain ⟨x0, ⟨A0, c0, hk0, hc0, hr0⟩, q0⟩ := ((Opn.slice Try.underlying22 (n0 := 4) (by kernel_rfl) rfl opn68)).out hf0
  simp [Value.cells] at hk0
  obtain ⟨rfl, rfl, rfl⟩ := hk0
  have k1 := h1
  have lt1 : ∀ x ∈ p1, x.block < W.heap.size := by obtain ⟨m, hm⟩ := k1; exact DataW.trod_lt m _ _ _ hm
  obtain ⟨cs1, rfl, _⟩ := okWide_struct Try.underlying31 (hval 1 31 v1 rfl rfl)
  obtain ⟨fu1, hf1⟩ := h1
  obtain ⟨x1, hk1, q1⟩ := (opn31).out hf1
  have ho1 := k31_open hk1
  obtain ⟨A1_0, c1_0, ho1, hc1_0, hr1_0⟩ := ho1
  obtain rfl : cs1 = #[.slice A1_0 x1.f0.length c1_0, .int .i64 x1.f1, .int .i64 x1.f2] := by cases cs1; simpa [Value.cells] using ho1
  refine (Go.Proofs.Ytblihmohgfmpgaa.Wk.FnExactPossibleSchools x0 x1.f0 x1.f1 x1.f2 _ _ A1_0 c1_0 W hr0 hc0 hr1_0 hc1_0 q0 q1).mono fun e W' ⟨he, bel⟩ => ?_
  subst he
  exact ⟨_, rfl, _, _, _, [], _, [], hW', trodAll_mk1 (shut_bool Try.underlying4 _), (trodAll_cons_mk (Below.trod laidOut (by kernel_rfl) (of_decide_eq_true (by kernel_rfl)) k0 bel lt0) (trodAll_cons_mk (Below.trod laidOut (by kernel_rfl) (of_decide_eq_true (by kernel_rfl)) k1 bel lt1) trodAll_mk0)), rfl, bel.frame _, fun h => by cases h⟩
theorem over : Rows.fnExactPossibleSchoolsRow.holds Try.pinned (OpenSpec.ofChange Rows.fnExactPossibleSchoolsSpec) :=
  OpenClaim.holds_of_wide 9 Try.f9 rfl rfl rfl rfl rfl rfl rfl ⟨rfl, rfl, rfl, rfl, rfl⟩ rfl rfl rfl rfl rfl (by kernel_rfl) Try.func9 (by kernel_rfl)
    (of_decide_eq_true (by kernel_rfl)) (by unfold Func.isWrapper; first | (rw [if_pos (by decide +kernel)]; kernel_rfl) | (rw [if_neg (by decide +kernel)]; exact ⟨rfl, rfl⟩))
    (fun os started H enc _ => lifted os started H enc)
theorem proved : Rows.FnExactPossibleSchoolsSaid := over
end Go.Proofs.Ytblihmohgfmpgaa.fnExactPossibleSchools
namespace Go.Proofs.Ytblihmohgfmpgaa
/-- The row, under a short name, for the claim. -/
theorem fnExactPossibleSchools_holds : Rows.FnExactPossibleSchoolsSaid := fnExactPossibleSchools.proved
end Go.Proofs.Ytblihmohgfmpgaa

#print axioms Go.Proofs.Ytblihmohgfmpgaa.fnExactPossibleSchools_holds
