import Derived.Test.YtembbdhhpblapaaSLE
import Derived.Test.YtembbdhhpblapaaSLK
import Derived.Test.YtembbdhhpblapaaSLB
import Derived.Test.YtembbdhhpblapaaMI4
import Derived.KernelRfl
namespace Go.Proofs.Ytembbdhhpblapaa.WK
open Go Go.RowKit Go.Proofs.Ytembbdhhpblapaa.Q Go.Proofs.Ytembbdhhpblapaa.M Go.Proofs.YtembbdhhpblapaaW.PrintWords Go.Proofs.YtembbdhhpblapaaW.Pl Go.Proofs.YtembbdhhpblapaaW.SL
set_option linter.unusedSimpArgs false
set_option linter.unusedVariables false
set_option maxRecDepth 100000
namespace MSS
theorem sc3 : ScT Try.prog 3 := ⟨by kernel_rfl⟩
theorem sc69 : ScT Try.prog 69 := ⟨by kernel_rfl⟩
theorem el57 : ElT Try.prog 57 69 1 := ⟨by kernel_rfl⟩
theorem en74 : Ent Try.prog 74 := ⟨enters_of Try.func74 (by kernel_rfl) rfl⟩
abbrev KSL : Kd (List Int) := (Kd.slice 3 (Kd.int .i64))
theorem setSS (ys : List (List Int)) (i j : Nat) (x : List Int) (hj : j < ys.length) : nth (ys.set i x) j [] = if i = j then x else nth ys j [] := by
  rw [nth_get (by simpa using hj), nth_get hj, List.getElem_set]
set_option maxHeartbeats 4000000 in
/-- All numbers of the rows are marked. -/
theorem run (w : World) (S : Nat → Prop) (g c : Nat) (xs : List (List Int)) (k0 : Nat) (hk : k0 ≤ 1048577) (hn : xs.length ≤ 1048576) (hm : ∀ i, i < xs.length → (nth xs i []).length ≤ 1048576)
    (hS : (Item.rowS KSL 69 0 (.slice (some ⟨g, 0, none⟩) xs.length c) xs).p w S) : Calls Try.prog 41 #[.slice (some ⟨g, 0, none⟩) xs.length c, .int .i64 (k0 : Int)] w fun e w' => e = .returned (.int .i64 ((kS xs k0 xs.length : Nat) : Int)) ∧ ∃ S', (Item.rowS KSL 69 0 (.slice (some ⟨g, 0, none⟩) xs.length c) (markSS xs k0)).p w' S' ∧ (∀ k, S' k → k < w.heap.size → S k) ∧ Aft S w w' := by
  have hkA := kS_b xs k0 hm
  refine enterS (args := [.slice (some ⟨g, 0, none⟩) xs.length c, .int .i64 (k0 : Int)]) [.rowS KSL 69 0 (.slice (some ⟨g, 0, none⟩) xs.length c) xs] [] (Own.single hS) (fun p hp => by cases hp) Try.func41 rfl rfl ?_
  repeat (first
    | (apply gateO; first
      | refine Jl.yd (Y.mv rfl rfl) rfl rfl rfl ?_
      | refine Jl.yd (Y.asg rfl rfl) rfl rfl rfl ?_
      | refine Jl.yd (Y.ext rfl rfl rfl) rfl rfl rfl ?_
      | refine Jl.yd (Y.pickT rfl rfl rfl) rfl rfl rfl ?_
      | refine Jl.yd (Y.pickF rfl rfl rfl) rfl rfl rfl ?_
      | refine Jl.off rfl rfl rfl ?_
      | refine Jl.yd (Y.cmpF rfl rfl rfl rfl (by omega)) rfl rfl rfl ?_
      | refine Jl.yd (Y.cmpT rfl rfl rfl rfl (by omega)) rfl rfl rfl ?_
      | refine Jl.yd (Y.neqB rfl rfl rfl Try.underlying4) rfl rfl rfl ?_
      | refine Jl.yd (Y.cmp rfl rfl rfl rfl) rfl rfl rfl ?_
      | refine Jl.yd (Y.not rfl rfl) rfl rfl rfl ?_
      | refine Jl.yd (Y.arithN rfl rfl rfl rfl (by omega)) rfl rfl rfl ?_
      | refine Jl.yd (Y.arith64 rfl rfl rfl rfl) rfl rfl rfl ?_
      | refine Jl.yd (Y.lenS Try.underlying57 rfl rfl rfl) rfl rfl rfl ?_
      | refine Jl.splitG rfl rfl (fun h => ?_) (fun h => ?_))
    | (apply gateE; first
      | refine Jl.nil (Ej.go ?_ (fun _ _ h => h))
      | (refine Jl.nil (Ej.back (fun _ _ h => h) (by repeat (first | exact .refl | apply DropTo.tail)) ?_); repeat (first | exact trivial | refine ⟨rfl, ?_⟩)))
    | (apply gateC; first
      | refine Cj.block rfl ?_
      | refine Cj.condF rfl rfl (Cj.skip rfl (Ej.go ?_ (fun _ _ h => h)))
      | (refine Cj.condF rfl rfl (Cj.skip rfl (Ej.back (fun _ _ h => h) (by repeat (first | exact .refl | apply DropTo.tail)) ?_)); repeat (first | exact trivial | refine ⟨rfl, ?_⟩))
      | refine Cj.condF rfl rfl ?_
      | refine Cj.condT rfl rfl ?_
      | refine Cj.exit rfl (Ej.go ?_ (fun _ _ h => h))
      | refine Cj.cond rfl rfl (fun h => ?_) (fun h => ?_)
      | refine Cj.skip rfl (Ej.go ?_ (fun _ _ h => h))
      | (refine Cj.skip rfl (Ej.back (fun _ _ h => h) (by repeat (first | exact .refl | apply DropTo.tail)) ?_); repeat (first | exact trivial | refine ⟨rfl, ?_⟩))
      | refine Cj.seq rfl ?_
      | refine Cj.region rfl ?_))
  refine Cj.loop (ι := Nat × List (List Int)) (fun p => p.1 ≤ xs.length ∧ p.2.length = xs.length ∧ ∀ j, j < xs.length → nth p.2 j [] = if j < p.1 then marksF (kS xs k0 j) (nth xs j []).length else nth xs j [])
    (fun p => [(0, .slice (some ⟨g, 0, none⟩) xs.length c), (1, .int .i64 ((kS xs k0 p.1 : Nat) : Int)), (5, .int .i64 (p.1 : Int)), (4, .int .i64 0)]) (fun p => [.rowS KSL 69 0 (.slice (some ⟨g, 0, none⟩) xs.length c) p.2]) (fun _ => []) (fun p => xs.length - p.1) rfl (0, xs) ⟨Nat.zero_le _, rfl, fun j _ => by rw [if_neg (by omega)]⟩ ⟨rfl, rfl, rfl, rfl, trivial⟩ rfl (fun p hp => hp) (fun p hp => ?_)
  obtain ⟨i, ys⟩ := p
  obtain ⟨h1, h2, h3⟩ := hp
  dsimp only at h1 h2 h3 ⊢
  have hki := hkA i h1
  by_cases hlt : i < xs.length
  · have hyi := h3 i hlt
    rw [if_neg (by omega)] at hyi
    have hmi := hm i hlt
    refine Cj.ws (ι := Option Addr × Nat) (fun q => (nth xs i []).length ≤ q.2) (fun q => [.row (Kd.int .i64) 3 0 (.slice q.1 (nth xs i []).length q.2) (nth xs i []), .lent KSL 69 0 (.slice (some ⟨g, 0, none⟩) xs.length c) ys (i : Int) [.slice q.1 (nth xs i []).length q.2] (.slice q.1 (nth xs i []).length q.2)]) (fun _ => []) (fun w hW => by
      obtain ⟨u, hu⟩ := hW.lend (di := Kd.int .i64) (ei := 3) (i := (i : Int)) (ys := nth xs i []) (fun u => [u]) [] (n := 0) rfl (by omega) (by omega) (fun w ok cs h => by
        obtain ⟨v, hv, hR⟩ := h
        refine ⟨v, hv, ?_⟩
        rw [← hyi]
        simpa [nth] using hR)
      obtain ⟨A, hA⟩ := hu.item (i := .row (Kd.int .i64) 3 0 u (nth xs i [])) List.mem_cons_self
      obtain ⟨A', c', rfl, hl', _⟩ := Kd.R_reads hA.1
      exact ⟨(A', c'), hl', hu⟩) (fun q hq => ?_)
    obtain ⟨A', c'⟩ := q
    dsimp only at hq ⊢
    repeat (first
    | (apply gateO; first
      | refine Jl.yd (Y.mv rfl rfl) rfl rfl rfl ?_
      | refine Jl.yd (Y.asg rfl rfl) rfl rfl rfl ?_
      | refine Jl.yd (Y.ext rfl rfl rfl) rfl rfl rfl ?_
      | refine Jl.yd (Y.pickT rfl rfl rfl) rfl rfl rfl ?_
      | refine Jl.yd (Y.pickF rfl rfl rfl) rfl rfl rfl ?_
      | refine Jl.off rfl rfl rfl ?_
      | refine Jl.yd (Y.cmpF rfl rfl rfl rfl (by omega)) rfl rfl rfl ?_
      | refine Jl.yd (Y.cmpT rfl rfl rfl rfl (by omega)) rfl rfl rfl ?_
      | refine Jl.yd (Y.neqB rfl rfl rfl Try.underlying4) rfl rfl rfl ?_
      | refine Jl.yd (Y.cmp rfl rfl rfl rfl) rfl rfl rfl ?_
      | refine Jl.yd (Y.not rfl rfl) rfl rfl rfl ?_
      | refine Jl.yd (Y.arithN rfl rfl rfl rfl (by omega)) rfl rfl rfl ?_
      | refine Jl.yd (Y.arith64 rfl rfl rfl rfl) rfl rfl rfl ?_
      | refine Jl.yd (Y.lenS Try.underlying57 rfl rfl rfl) rfl rfl rfl ?_
      | refine Jl.yd (Y.idx0 rfl rfl rfl el57 (by omega) (by omega)) rfl rfl rfl ?_
      | refine Jl.yd (Y.loadL rfl rfl sc69 (by repeat (first | exact .head _ | refine .tail _ ?_)) (by omega) (by omega) 0 (by rfl) (by rfl)) rfl rfl rfl ?_
      | refine Jl.splitG rfl rfl (fun h => ?_) (fun h => ?_))
    | (apply gateE; first
      | refine Jl.nil (Ej.go ?_ (fun _ _ h => h))
      | (refine Jl.nil (Ej.back (fun _ _ h => h) (by repeat (first | exact .refl | apply DropTo.tail)) ?_); repeat (first | exact trivial | refine ⟨rfl, ?_⟩)))
    | (apply gateC; first
      | refine Cj.block rfl ?_
      | refine Cj.condF rfl rfl (Cj.skip rfl (Ej.go ?_ (fun _ _ h => h)))
      | (refine Cj.condF rfl rfl (Cj.skip rfl (Ej.back (fun _ _ h => h) (by repeat (first | exact .refl | apply DropTo.tail)) ?_)); repeat (first | exact trivial | refine ⟨rfl, ?_⟩))
      | refine Cj.condF rfl rfl ?_
      | refine Cj.condT rfl rfl ?_
      | refine Cj.exit rfl (Ej.go ?_ (fun _ _ h => h))
      | refine Cj.cond rfl rfl (fun h => ?_) (fun h => ?_)
      | refine Cj.skip rfl (Ej.go ?_ (fun _ _ h => h))
      | (refine Cj.skip rfl (Ej.back (fun _ _ h => h) (by repeat (first | exact .refl | apply DropTo.tail)) ?_); repeat (first | exact trivial | refine ⟨rfl, ?_⟩))
      | refine Cj.seq rfl ?_
      | refine Cj.region rfl ?_))
    obtain ⟨kk, hkk⟩ := (markF (nth xs i []) hmi (kS xs k0 i) (by omega)).rounds
    refine Jl.callM (v := .int .i64 ((kS xs k0 i + (nth xs i []).length : Nat) : Int)) (.row (Kd.int .i64) 3 0 (.slice A' (nth xs i []).length c') (nth xs i [])) (.row (Kd.int .i64) 3 0 (.slice A' (nth xs i []).length c') (marksF (kS xs k0 i) (nth xs i []).length)) rfl rfl rfl rfl en74 rfl .z (fun w A hW hA => of_kept hA (fun P0 w0 hB hR => laws_markIntS.calls kk P0 _ (nth xs i []) ((kS xs k0 i : Nat) : Int) _ _ w0 w hB hR hkk)) ?_
    repeat (first
    | (apply gateO; first
      | refine Jl.yd (Y.mv rfl rfl) rfl rfl rfl ?_
      | refine Jl.yd (Y.asg rfl rfl) rfl rfl rfl ?_
      | refine Jl.yd (Y.ext rfl rfl rfl) rfl rfl rfl ?_
      | refine Jl.yd (Y.pickT rfl rfl rfl) rfl rfl rfl ?_
      | refine Jl.yd (Y.pickF rfl rfl rfl) rfl rfl rfl ?_
      | refine Jl.off rfl rfl rfl ?_
      | refine Jl.yd (Y.cmpF rfl rfl rfl rfl (by omega)) rfl rfl rfl ?_
      | refine Jl.yd (Y.cmpT rfl rfl rfl rfl (by omega)) rfl rfl rfl ?_
      | refine Jl.yd (Y.neqB rfl rfl rfl Try.underlying4) rfl rfl rfl ?_
      | refine Jl.yd (Y.cmp rfl rfl rfl rfl) rfl rfl rfl ?_
      | refine Jl.yd (Y.not rfl rfl) rfl rfl rfl ?_
      | refine Jl.yd (Y.arithN rfl rfl rfl rfl (by omega)) rfl rfl rfl ?_
      | refine Jl.yd (Y.arith64 rfl rfl rfl rfl) rfl rfl rfl ?_
      | refine Jl.yd (Y.lenS Try.underlying57 rfl rfl rfl) rfl rfl rfl ?_
      | refine Jl.splitG rfl rfl (fun h => ?_) (fun h => ?_))
    | (apply gateE; first
      | refine Jl.nil (Ej.go ?_ (fun _ _ h => h))
      | (refine Jl.nil (Ej.back (fun _ _ h => h) (by repeat (first | exact .refl | apply DropTo.tail)) ?_); repeat (first | exact trivial | refine ⟨rfl, ?_⟩)))
    | (apply gateC; first
      | refine Cj.condF rfl rfl (Cj.skip rfl (Ej.go ?_ (fun _ _ h => h)))
      | (refine Cj.condF rfl rfl (Cj.skip rfl (Ej.back (fun _ _ h => h) (by repeat (first | exact .refl | apply DropTo.tail)) ?_)); repeat (first | exact trivial | refine ⟨rfl, ?_⟩))
      | refine Cj.condF rfl rfl ?_
      | refine Cj.condT rfl rfl ?_
      | refine Cj.exit rfl (Ej.go ?_ (fun _ _ h => h))
      | refine Cj.cond rfl rfl (fun h => ?_) (fun h => ?_)
      | refine Cj.skip rfl (Ej.go ?_ (fun _ _ h => h))
      | (refine Cj.skip rfl (Ej.back (fun _ _ h => h) (by repeat (first | exact .refl | apply DropTo.tail)) ?_); repeat (first | exact trivial | refine ⟨rfl, ?_⟩))
      | refine Cj.seq rfl ?_
      | refine Cj.region rfl ?_))
    refine Jl.nil (Ej.ws (ι := Unit) (fun _ => True) (fun _ => [.rowS KSL 69 0 (.slice (some ⟨g, 0, none⟩) xs.length c) (ys.set i (marksF (kS xs k0 i) (nth xs i []).length))]) (fun _ => []) (fun w hW => ⟨(), trivial, by
      have := hW.back (n := 0) (x' := marksF (kS xs k0 i) (nth xs i []).length) rfl rfl (fun w ok h => ⟨_, rfl, h⟩)
      simpa using this⟩) (fun _ _ => ?_))
    refine Ej.cut (ι := Nat × List (List Int)) _ _ _ _ (fun _ _ h => h) (i + 1, ys.set i (marksF (kS xs k0 i) (nth xs i []).length)) ⟨⟨by omega, by simp [h2], fun j hj => ?_⟩, by dsimp only; omega⟩ ⟨rfl, rfl, rfl, rfl, trivial⟩ rfl (fun p hp => hp)
    rw [setSS ys i j _ (by omega)]
    by_cases e : i = j
    · subst e
      rw [if_pos rfl, if_pos (by show i < i + 1; omega)]
    · rw [if_neg e, h3 j hj]
      by_cases hji : j < i
      · rw [if_pos hji, if_pos (by show j < i + 1; omega)]
      · rw [if_neg hji, if_neg (by show ¬ j < i + 1; omega)]
  · obtain rfl : i = xs.length := by omega
    have he : ys = markSS xs k0 := by
      apply List.ext_getElem (by rw [h2, markSS_len])
      intro j j1 j2
      have := h3 j (by omega)
      rw [if_pos (by omega), nth_get j1] at this
      rw [this, ← nth_get (z := []) j2, markSS_nth xs k0 j (by omega)]
    subst he
    repeat (first
    | (apply gateO; first
      | refine Jl.yd (Y.mv rfl rfl) rfl rfl rfl ?_
      | refine Jl.yd (Y.asg rfl rfl) rfl rfl rfl ?_
      | refine Jl.yd (Y.ext rfl rfl rfl) rfl rfl rfl ?_
      | refine Jl.yd (Y.pickT rfl rfl rfl) rfl rfl rfl ?_
      | refine Jl.yd (Y.pickF rfl rfl rfl) rfl rfl rfl ?_
      | refine Jl.off rfl rfl rfl ?_
      | refine Jl.yd (Y.cmpF rfl rfl rfl rfl (by omega)) rfl rfl rfl ?_
      | refine Jl.yd (Y.cmpT rfl rfl rfl rfl (by omega)) rfl rfl rfl ?_
      | refine Jl.yd (Y.neqB rfl rfl rfl Try.underlying4) rfl rfl rfl ?_
      | refine Jl.yd (Y.cmp rfl rfl rfl rfl) rfl rfl rfl ?_
      | refine Jl.yd (Y.not rfl rfl) rfl rfl rfl ?_
      | refine Jl.yd (Y.arithN rfl rfl rfl rfl (by omega)) rfl rfl rfl ?_
      | refine Jl.yd (Y.arith64 rfl rfl rfl rfl) rfl rfl rfl ?_
      | refine Jl.yd (Y.lenS Try.underlying57 rfl rfl rfl) rfl rfl rfl ?_
      | refine Jl.splitG rfl rfl (fun h => ?_) (fun h => ?_))
    | (apply gateE; first
      | refine Jl.nil (Ej.go ?_ (fun _ _ h => h))
      | (refine Jl.nil (Ej.back (fun _ _ h => h) (by repeat (first | exact .refl | apply DropTo.tail)) ?_); repeat (first | exact trivial | refine ⟨rfl, ?_⟩)))
    | (apply gateC; first
      | refine Cj.block rfl ?_
      | refine Cj.ret rfl (Ej.out1 (P := Try.prog) (fn := Try.f41) (R := fun e w' => e = .returned (.int .i64 ((kS xs k0 xs.length : Nat) : Int)) ∧ ∃ S', (Item.rowS KSL 69 0 (.slice (some ⟨g, 0, none⟩) xs.length c) (markSS xs k0)).p w' S' ∧ (∀ k, S' k → k < w.heap.size → S k) ∧ Aft S w w') (fun _ _ h => h) rfl rfl (fun w' hW => ?_))
      | refine Cj.condF rfl rfl (Cj.skip rfl (Ej.go ?_ (fun _ _ h => h)))
      | (refine Cj.condF rfl rfl (Cj.skip rfl (Ej.back (fun _ _ h => h) (by repeat (first | exact .refl | apply DropTo.tail)) ?_)); repeat (first | exact trivial | refine ⟨rfl, ?_⟩))
      | refine Cj.condF rfl rfl ?_
      | refine Cj.condT rfl rfl ?_
      | refine Cj.exit rfl (Ej.go ?_ (fun _ _ h => h))
      | refine Cj.cond rfl rfl (fun h => ?_) (fun h => ?_)
      | refine Cj.skip rfl (Ej.go ?_ (fun _ _ h => h))
      | (refine Cj.skip rfl (Ej.back (fun _ _ h => h) (by repeat (first | exact .refl | apply DropTo.tail)) ?_); repeat (first | exact trivial | refine ⟨rfl, ?_⟩))
      | refine Cj.seq rfl ?_
      | refine Cj.region rfl ?_))
    obtain ⟨S', g1, g2, g3⟩ := hW.end1
    exact ⟨rfl, S', g1, g2, g3⟩
set_option maxHeartbeats 1000000 in
theorem nil (w : World) (S : Nat → Prop) (c k0 : Nat) (hS : (Item.rowS KSL 69 0 (.slice none 0 c) []).p w S) : Calls Try.prog 41 #[.slice none 0 c, .int .i64 (k0 : Int)] w fun e w' => e = .returned (.int .i64 (k0 : Int)) ∧ ∃ S', (Item.rowS KSL 69 0 (.slice none 0 c) []).p w' S' ∧ (∀ k, S' k → k < w.heap.size → S k) ∧ Aft S w w' := by
  refine enterS (args := [.slice none 0 c, .int .i64 (k0 : Int)]) [.rowS KSL 69 0 (.slice none 0 c) []] [] (Own.single hS) (fun p hp => by cases hp) Try.func41 rfl rfl ?_
  repeat (first
    | (apply gateO; first
      | refine Jl.yd (Y.mv rfl rfl) rfl rfl rfl ?_
      | refine Jl.yd (Y.asg rfl rfl) rfl rfl rfl ?_
      | refine Jl.yd (Y.ext rfl rfl rfl) rfl rfl rfl ?_
      | refine Jl.yd (Y.pickT rfl rfl rfl) rfl rfl rfl ?_
      | refine Jl.yd (Y.pickF rfl rfl rfl) rfl rfl rfl ?_
      | refine Jl.off rfl rfl rfl ?_
      | refine Jl.yd (Y.cmpF rfl rfl rfl rfl (by omega)) rfl rfl rfl ?_
      | refine Jl.yd (Y.cmpT rfl rfl rfl rfl (by omega)) rfl rfl rfl ?_
      | refine Jl.yd (Y.neqB rfl rfl rfl Try.underlying4) rfl rfl rfl ?_
      | refine Jl.yd (Y.cmp rfl rfl rfl rfl) rfl rfl rfl ?_
      | refine Jl.yd (Y.not rfl rfl) rfl rfl rfl ?_
      | refine Jl.yd (Y.arithN rfl rfl rfl rfl (by omega)) rfl rfl rfl ?_
      | refine Jl.yd (Y.arith64 rfl rfl rfl rfl) rfl rfl rfl ?_
      | refine Jl.yd (Y.lenS Try.underlying57 rfl rfl rfl) rfl rfl rfl ?_
      | refine Jl.splitG rfl rfl (fun h => ?_) (fun h => ?_))
    | (apply gateE; first
      | refine Jl.nil (Ej.go ?_ (fun _ _ h => h))
      | (refine Jl.nil (Ej.back (fun _ _ h => h) (by repeat (first | exact .refl | apply DropTo.tail)) ?_); repeat (first | exact trivial | refine ⟨rfl, ?_⟩)))
    | (apply gateC; first
      | refine Cj.block rfl ?_
      | refine Cj.condF rfl rfl (Cj.skip rfl (Ej.go ?_ (fun _ _ h => h)))
      | (refine Cj.condF rfl rfl (Cj.skip rfl (Ej.back (fun _ _ h => h) (by repeat (first | exact .refl | apply DropTo.tail)) ?_)); repeat (first | exact trivial | refine ⟨rfl, ?_⟩))
      | refine Cj.condF rfl rfl ?_
      | refine Cj.condT rfl rfl ?_
      | refine Cj.exit rfl (Ej.go ?_ (fun _ _ h => h))
      | refine Cj.cond rfl rfl (fun h => ?_) (fun h => ?_)
      | refine Cj.skip rfl (Ej.go ?_ (fun _ _ h => h))
      | (refine Cj.skip rfl (Ej.back (fun _ _ h => h) (by repeat (first | exact .refl | apply DropTo.tail)) ?_); repeat (first | exact trivial | refine ⟨rfl, ?_⟩))
      | refine Cj.seq rfl ?_
      | refine Cj.region rfl ?_))
  refine Cj.loop (ι := Unit) (fun _ => True) (fun p => [(0, .slice none 0 c), (1, .int .i64 (k0 : Int)), (5, .int .i64 0), (4, .int .i64 0)]) (fun _ => [.rowS KSL 69 0 (.slice none 0 c) []]) (fun _ => []) (fun _ => 0) rfl () trivial ⟨rfl, rfl, rfl, rfl, trivial⟩ rfl (fun p hp => hp) (fun p hp => ?_)
  repeat (first
    | (apply gateO; first
      | refine Jl.yd (Y.mv rfl rfl) rfl rfl rfl ?_
      | refine Jl.yd (Y.asg rfl rfl) rfl rfl rfl ?_
      | refine Jl.yd (Y.ext rfl rfl rfl) rfl rfl rfl ?_
      | refine Jl.yd (Y.pickT rfl rfl rfl) rfl rfl rfl ?_
      | refine Jl.yd (Y.pickF rfl rfl rfl) rfl rfl rfl ?_
      | refine Jl.off rfl rfl rfl ?_
      | refine Jl.yd (Y.cmpF rfl rfl rfl rfl (by omega)) rfl rfl rfl ?_
      | refine Jl.yd (Y.cmpT rfl rfl rfl rfl (by omega)) rfl rfl rfl ?_
      | refine Jl.yd (Y.neqB rfl rfl rfl Try.underlying4) rfl rfl rfl ?_
      | refine Jl.yd (Y.cmp rfl rfl rfl rfl) rfl rfl rfl ?_
      | refine Jl.yd (Y.not rfl rfl) rfl rfl rfl ?_
      | refine Jl.yd (Y.arithN rfl rfl rfl rfl (by omega)) rfl rfl rfl ?_
      | refine Jl.yd (Y.arith64 rfl rfl rfl rfl) rfl rfl rfl ?_
      | refine Jl.yd (Y.lenS Try.underlying57 rfl rfl rfl) rfl rfl rfl ?_
      | refine Jl.splitG rfl rfl (fun h => ?_) (fun h => ?_))
    | (apply gateE; first
      | refine Jl.nil (Ej.go ?_ (fun _ _ h => h))
      | (refine Jl.nil (Ej.back (fun _ _ h => h) (by repeat (first | exact .refl | apply DropTo.tail)) ?_); repeat (first | exact trivial | refine ⟨rfl, ?_⟩)))
    | (apply gateC; first
      | refine Cj.block rfl ?_
      | refine Cj.ret rfl (Ej.out1 (P := Try.prog) (fn := Try.f41) (R := fun e w' => e = .returned (.int .i64 ((k0 : Int))) ∧ ∃ S', (Item.rowS KSL 69 0 (.slice none 0 c) ([])).p w' S' ∧ (∀ k, S' k → k < w.heap.size → S k) ∧ Aft S w w') (fun _ _ h => h) rfl rfl (fun w' hW => ?_))
      | refine Cj.condF rfl rfl (Cj.skip rfl (Ej.go ?_ (fun _ _ h => h)))
      | (refine Cj.condF rfl rfl (Cj.skip rfl (Ej.back (fun _ _ h => h) (by repeat (first | exact .refl | apply DropTo.tail)) ?_)); repeat (first | exact trivial | refine ⟨rfl, ?_⟩))
      | refine Cj.condF rfl rfl ?_
      | refine Cj.condT rfl rfl ?_
      | refine Cj.exit rfl (Ej.go ?_ (fun _ _ h => h))
      | refine Cj.cond rfl rfl (fun h => ?_) (fun h => ?_)
      | refine Cj.skip rfl (Ej.go ?_ (fun _ _ h => h))
      | (refine Cj.skip rfl (Ej.back (fun _ _ h => h) (by repeat (first | exact .refl | apply DropTo.tail)) ?_); repeat (first | exact trivial | refine ⟨rfl, ?_⟩))
      | refine Cj.seq rfl ?_
      | refine Cj.region rfl ?_))
  obtain ⟨S', g1, g2, g3⟩ := hW.end1
  exact ⟨rfl, S', g1, g2, g3⟩
/-- laws.markIntSS. -/
theorem calls (w : World) (S : Nat → Prop) (v : Value) (xs : List (List Int)) (k0 : Nat) (hk : k0 ≤ 1048577) (hn : xs.length ≤ 1048576) (hm : ∀ i, i < xs.length → (nth xs i []).length ≤ 1048576)
    (hS : (Item.rowS KSL 69 0 v xs).p w S) : Calls Try.prog 41 #[v, .int .i64 (k0 : Int)] w fun e w' => e = .returned (.int .i64 ((kS xs k0 xs.length : Nat) : Int)) ∧ ∃ S', (Item.rowS KSL 69 0 v (markSS xs k0)).p w' S' ∧ (∀ k, S' k → k < w.heap.size → S k) ∧ Aft S w w' := by
  rcases rowS_form hS.1 with ⟨c, rfl, rfl⟩ | ⟨g, c, rfl⟩
  · exact nil w S c k0 hS
  · exact run w S g c xs k0 hk hn hm hS
end MSS
end Go.Proofs.Ytembbdhhpblapaa.WK
