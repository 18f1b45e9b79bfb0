import Derived.KernelRfl
import Derived.Shelf.Small.Bits
import Derived.Shelf.Lay
import Derived.Ground.NamesProg
import Derived.Test.YtembbdhhpblapaaZFnSales6
namespace Go.Proofs
open Go.Shelf
shelf_lay Lays.n125 Nm 125 at Try as Try.layLen
end Go.Proofs
namespace Go.Proofs.Ytembbdhhpblapaa.WK
open Go Go.RowKit Go.Proofs.Ytembbdhhpblapaa.Q Go.Proofs.YtembbdhhpblapaaW.PrintWords Go.Proofs.YtembbdhhpblapaaW.Pl Go.Proofs.YtembbdhhpblapaaW.SL
set_option linter.unusedSimpArgs false
set_option linter.unusedVariables false
set_option maxRecDepth 100000
theorem bitsLen (n : Nat) (w : World) (h : n ≤ 12) : Calls Try.prog 97 #[.int .u64 (n : Int)] w fun e w' => (∃ l : Int, e = .returned (.int .i64 l)) ∧ Below w.heap.size w w' :=
  (Any.bits_Len Try.layLen n w (by omega) (by omega)).mono fun _ _ ⟨he, hw⟩ => ⟨⟨_, he⟩, hw ▸ Below.refl _ _⟩
namespace Ins98
theorem mixed : Try.prog.follows .mixedOrders = true := by kernel_rfl
theorem agg40 : AggT Try.prog 40 7 := ⟨by kernel_rfl⟩
theorem sz40 : SzT Try.prog 40 7 := ⟨by kernel_rfl⟩
theorem el46 : ElT Try.prog 46 40 7 := ⟨by kernel_rfl⟩
/-- 'less' on rows of cells. -/
def ltc (cf : List Value → List Value → Int) (x y : List Value) : Bool := decide (cf x y < 0)
set_option maxHeartbeats 8000000 in
theorem run (g : Nat) (lb : Array Value) (eg : Ent Try.prog g) (cf : List Value → List Value → Int) (w0 : World) (h c : Nat) (rows : List (List Value)) (cs : List Value)
    (hh : w0.heap[h]? = some (.cells cs.toArray 40 (0, 0))) (hcl : cs.length = c * 7) (hnc : rows.length ≤ c) (hcx : c ≤ maxLen)
    (hr : ∀ j us, rows[j]? = some us → rowOf 7 cs j = us ∧ us.length = 7 ∧ ∀ u ∈ us, u.oneCell' = true)
    (hC : ∀ W, Aft (fun k => k = h) w0 W → ∀ x y, x ∈ rows → y ∈ rows → Calls Try.prog g (#[.agg x.toArray, .agg y.toArray] ++ lb) W fun e W' => e = .returned (.int .i64 (cf x y)) ∧ Below W.heap.size W W') :
    Calls Try.prog 98 #[.slice (some ⟨h, 0, none⟩) rows.length c, .int .i64 0, .int .i64 (rows.length : Int), .func (.func g) #[] lb] w0 fun e w' => e = .returned (.tuple #[]) ∧ ∃ cs' : List Value, cs'.length = c * 7 ∧ w'.heap[h]? = some (.cells cs'.toArray 40 (0, 0)) ∧ (∀ j us, (isort (ltc cf) rows)[j]? = some us → rowOf 7 cs' j = us) ∧ Aft (fun k => k = h) w0 w' := by
  let Rr : Ending → World → Prop := fun e w' => e = .returned (.tuple #[]) ∧ ∃ cs' : List Value, cs'.length = c * 7 ∧ w'.heap[h]? = some (.cells cs'.toArray 40 (0, 0)) ∧ (∀ j us, (isort (ltc cf) rows)[j]? = some us → rowOf 7 cs' j = us) ∧ Aft (fun k => k = h) w0 w'
  let pC : World → Prop := fun W => ∀ x y, x ∈ rows → y ∈ rows → Calls Try.prog g (#[.agg x.toArray, .agg y.toArray] ++ lb) W fun e W' => e = .returned (.int .i64 (cf x y)) ∧ Below W.heap.size W W'
  have hmx : c ≤ 9223372036854775807 := hcx
  refine enterS (S := fun k => k = h) (args := [.slice (some ⟨h, 0, none⟩) rows.length c, .int .i64 0, .int .i64 (rows.length : Int), .func (.func g) #[] lb]) [.box h 40 cs] [pC] (Own.single ⟨hh, fun k => Iff.rfl⟩) (fun q hq => by
    rw [List.mem_singleton.1 hq]; exact fun W hW => hC W hW) Try.func98 rfl rfl ?_
  show Cj Try.prog _ _ _ (bodyPost Try.prog Try.f98 Rr) _ _ _
  repeat (first
    | (apply gateO; first
      | refine Jl.yd (Y.mv rfl rfl) rfl rfl rfl ?_
      | refine Jl.yd (Y.asg rfl rfl) rfl rfl rfl ?_
      | refine Jl.yd (Y.ext rfl rfl rfl) rfl rfl rfl ?_
      | refine Jl.yd (Y.pickT rfl rfl rfl) rfl rfl rfl ?_
      | refine Jl.yd (Y.pickF rfl rfl rfl) rfl rfl rfl ?_
      | refine Jl.off rfl rfl rfl ?_
      | refine Jl.yd (Y.cmpF rfl rfl rfl rfl (by omega)) rfl rfl rfl ?_
      | refine Jl.yd (Y.cmpT rfl rfl rfl rfl (by omega)) rfl rfl rfl ?_
      | refine Jl.yd (Y.neqB rfl rfl rfl Try.underlying4) rfl rfl rfl ?_
      | refine Jl.yd (Y.cmp rfl rfl rfl rfl) rfl rfl rfl ?_
      | refine Jl.yd (Y.not rfl rfl) rfl rfl rfl ?_
      | refine Jl.yd (Y.arithN rfl rfl rfl rfl (by omega)) rfl rfl rfl ?_
      | refine Jl.yd (Y.arith64 rfl rfl rfl rfl) rfl rfl rfl ?_
      | refine Jl.yd (Y.idx0 rfl rfl rfl el46 (by omega) (by omega)) rfl rfl rfl ?_
      | refine Jl.splitG rfl rfl (fun h => ?_) (fun h => ?_))
    | (apply gateE; first
      | refine Jl.nil (Ej.go ?_ (fun _ _ h => h))
      | (refine Jl.nil (Ej.back (fun _ _ h => h) (by repeat (first | exact .refl | apply DropTo.tail)) ?_); repeat (first | exact trivial | refine ⟨rfl, ?_⟩)))
    | (apply gateC; first
      | refine Cj.block rfl ?_
      | refine Cj.condF rfl rfl (Cj.skip rfl (Ej.go ?_ (fun _ _ h => h)))
      | (refine Cj.condF rfl rfl (Cj.skip rfl (Ej.back (fun _ _ h => h) (by repeat (first | exact .refl | apply DropTo.tail)) ?_)); repeat (first | exact trivial | refine ⟨rfl, ?_⟩))
      | refine Cj.condF rfl rfl ?_
      | refine Cj.condT rfl rfl ?_
      | refine Cj.exit rfl (Ej.go ?_ (fun _ _ h => h))
      | refine Cj.cond rfl rfl (fun h => ?_) (fun h => ?_)
      | refine Cj.skip rfl (Ej.go ?_ (fun _ _ h => h))
      | (refine Cj.skip rfl (Ej.back (fun _ _ h => h) (by repeat (first | exact .refl | apply DropTo.tail)) ?_); repeat (first | exact trivial | refine ⟨rfl, ?_⟩))
      | refine Cj.seq rfl ?_
      | refine Cj.region rfl ?_))
  refine Cj.loop (ι := Nat × List Value) (fun q => (1 ≤ q.1 ∧ (q.1 = 1 ∨ q.1 ≤ rows.length)) ∧ q.2.length = cs.length ∧ ∀ t us, (isort (ltc cf) (rows.take q.1) ++ rows.drop q.1)[t]? = some us → rowOf 7 q.2 t = us)
    (fun q => [(0, .slice (some ⟨h, 0, none⟩) rows.length c), (1, .int .i64 0), (2, .int .i64 (rows.length : Int)), (3, .func (.func g) #[] lb), (8, .int .i64 (q.1 : Int))]) (fun q => [.box h 40 q.2]) (fun _ => [pC]) (fun q => rows.length + 1 - q.1) rfl (1, cs) ⟨⟨Nat.le_refl _, .inl rfl⟩, rfl, fun t us ht => ?_⟩ ⟨rfl, rfl, rfl, rfl, rfl, trivial⟩ rfl (fun p hp => hp) (fun q hq => ?_)
  · have e0 : isort (ltc cf) (rows.take 1) ++ rows.drop 1 = rows := by
      cases rows with
      | nil => rfl
      | cons a r => rfl
    rw [e0] at ht
    exact (hr t us ht).1
  obtain ⟨i, cs1⟩ := q
  obtain ⟨⟨h1, h2⟩, h3, h4⟩ := hq
  dsimp only at h1 h2 h3 h4 ⊢
  by_cases hlt : i < rows.length
  · obtain ⟨x, hxi⟩ : ∃ x, rows[i]? = some x := ⟨_, List.getElem?_eq_getElem hlt⟩
    have hxm := List.mem_of_getElem? hxi
    obtain ⟨_, hxl, hxo⟩ := hr i x hxi
    have htk : rows.take (i + 1) = rows.take i ++ [x] := by rw [List.take_add_one, hxi]; rfl
    have hdr : rows.drop i = x :: rows.drop (i + 1) := by
      rw [List.drop_eq_getElem_cons hlt]; congr 1
      exact (List.getElem?_eq_some_iff.1 hxi).2
    obtain ⟨s, hs⟩ : ∃ s, isort (ltc cf) (rows.take i) = s := ⟨_, rfl⟩
    have hsl : s.length = i := by rw [← hs, isort_len, List.length_take]; omega
    have hsm : ∀ z, z ∈ s → z ∈ rows := fun z hz => List.mem_of_mem_take (isort_mem (hs ▸ hz))
    repeat (first
    | (apply gateO; first
      | refine Jl.yd (Y.mv rfl rfl) rfl rfl rfl ?_
      | refine Jl.yd (Y.asg rfl rfl) rfl rfl rfl ?_
      | refine Jl.yd (Y.ext rfl rfl rfl) rfl rfl rfl ?_
      | refine Jl.yd (Y.pickT rfl rfl rfl) rfl rfl rfl ?_
      | refine Jl.yd (Y.pickF rfl rfl rfl) rfl rfl rfl ?_
      | refine Jl.off rfl rfl rfl ?_
      | refine Jl.yd (Y.cmpF rfl rfl rfl rfl (by omega)) rfl rfl rfl ?_
      | refine Jl.yd (Y.cmpT rfl rfl rfl rfl (by omega)) rfl rfl rfl ?_
      | refine Jl.yd (Y.neqB rfl rfl rfl Try.underlying4) rfl rfl rfl ?_
      | refine Jl.yd (Y.cmp rfl rfl rfl rfl) rfl rfl rfl ?_
      | refine Jl.yd (Y.not rfl rfl) rfl rfl rfl ?_
      | refine Jl.yd (Y.arithN rfl rfl rfl rfl (by omega)) rfl rfl rfl ?_
      | refine Jl.yd (Y.arith64 rfl rfl rfl rfl) rfl rfl rfl ?_
      | refine Jl.yd (Y.idx0 rfl rfl rfl el46 (by omega) (by omega)) rfl rfl rfl ?_
      | refine Jl.splitG rfl rfl (fun h => ?_) (fun h => ?_))
    | (apply gateE; first
      | refine Jl.nil (Ej.go ?_ (fun _ _ h => h))
      | (refine Jl.nil (Ej.back (fun _ _ h => h) (by repeat (first | exact .refl | apply DropTo.tail)) ?_); repeat (first | exact trivial | refine ⟨rfl, ?_⟩)))
    | (apply gateC; first
      | refine Cj.block rfl ?_
      | refine Cj.condF rfl rfl (Cj.skip rfl (Ej.go ?_ (fun _ _ h => h)))
      | (refine Cj.condF rfl rfl (Cj.skip rfl (Ej.back (fun _ _ h => h) (by repeat (first | exact .refl | apply DropTo.tail)) ?_)); repeat (first | exact trivial | refine ⟨rfl, ?_⟩))
      | refine Cj.condF rfl rfl ?_
      | refine Cj.condT rfl rfl ?_
      | refine Cj.exit rfl (Ej.go ?_ (fun _ _ h => h))
      | refine Cj.cond rfl rfl (fun h => ?_) (fun h => ?_)
      | refine Cj.skip rfl (Ej.go ?_ (fun _ _ h => h))
      | (refine Cj.skip rfl (Ej.back (fun _ _ h => h) (by repeat (first | exact .refl | apply DropTo.tail)) ?_); repeat (first | exact trivial | refine ⟨rfl, ?_⟩))
      | refine Cj.seq rfl ?_
      | refine Cj.region rfl ?_))
    refine Cj.loop (ι := List (List Value) × List (List Value) × List Value) (fun p => (p.1.length + p.2.1.length = i ∧ ∀ z, z ∈ p.1 → z ∈ rows) ∧ goI (ltc cf) x p.1 p.2.1 = insR (ltc cf) s x ∧ p.2.2.length = cs.length ∧ ∀ t us, (p.1.reverse ++ x :: (p.2.1 ++ rows.drop (i + 1)))[t]? = some us → rowOf 7 p.2.2 t = us)
      (fun p => [(0, .slice (some ⟨h, 0, none⟩) rows.length c), (1, .int .i64 0), (2, .int .i64 (rows.length : Int)), (3, .func (.func g) #[] lb), (8, .int .i64 (i : Int)), (9, .int .i64 (p.1.length : Int))]) (fun p => [.box h 40 p.2.2]) (fun _ => [pC]) (fun p => p.1.length) rfl (s.reverse, [], cs1) ⟨⟨by simp [hsl], fun z hz => hsm z (List.mem_reverse.1 hz)⟩, rfl, h3, fun t us ht => h4 t us ?_⟩ ⟨rfl, rfl, rfl, rfl, rfl, ?_, trivial⟩ rfl (fun p hp => hp) (fun p hp => ?_)
    · rw [hs, hdr]
      simpa using ht
    · show some (Value.int .i64 (i : Int)) = some (.int .i64 ((s.reverse.length : Nat) : Int))
      rw [List.length_reverse, hsl]
    obtain ⟨A, B, cs2⟩ := p
    obtain ⟨⟨g1, g2⟩, g3, g4, g5⟩ := hp
    dsimp only at g1 g2 g3 g4 g5 ⊢
    have fin : goI (ltc cf) x A B = A.reverse ++ x :: B → ∀ t us, (isort (ltc cf) (rows.take (i + 1)) ++ rows.drop (i + 1))[t]? = some us → rowOf 7 cs2 t = us := fun e t us ht => g5 t us (by
      rw [htk, isort_snoc, hs, ← g3, e] at ht
      simpa using ht)
    cases A with
    | nil =>
      have fin := fin rfl
      repeat (first
    | (apply gateO; first
      | refine Jl.yd (Y.mv rfl rfl) rfl rfl rfl ?_
      | refine Jl.yd (Y.asg rfl rfl) rfl rfl rfl ?_
      | refine Jl.yd (Y.ext rfl rfl rfl) rfl rfl rfl ?_
      | refine Jl.yd (Y.pickT rfl rfl rfl) rfl rfl rfl ?_
      | refine Jl.yd (Y.pickF rfl rfl rfl) rfl rfl rfl ?_
      | refine Jl.off rfl rfl rfl ?_
      | refine Jl.yd (Y.cmpF rfl rfl rfl rfl (by omega)) rfl rfl rfl ?_
      | refine Jl.yd (Y.cmpT rfl rfl rfl rfl (by omega)) rfl rfl rfl ?_
      | refine Jl.yd (Y.neqB rfl rfl rfl Try.underlying4) rfl rfl rfl ?_
      | refine Jl.yd (Y.cmp rfl rfl rfl rfl) rfl rfl rfl ?_
      | refine Jl.yd (Y.not rfl rfl) rfl rfl rfl ?_
      | refine Jl.yd (Y.arithN rfl rfl rfl rfl (by omega)) rfl rfl rfl ?_
      | refine Jl.yd (Y.arith64 rfl rfl rfl rfl) rfl rfl rfl ?_
      | refine Jl.yd (Y.idx0 rfl rfl rfl el46 (by omega) (by omega)) rfl rfl rfl ?_
      | refine Jl.splitG rfl rfl (fun h => ?_) (fun h => ?_))
    | (apply gateE; first
      | refine Jl.nil (Ej.go ?_ (fun _ _ h => h))
      | (refine Jl.nil (Ej.back (fun _ _ h => h) (by repeat (first | exact .refl | apply DropTo.tail)) ?_); repeat (first | exact trivial | refine ⟨rfl, ?_⟩)))
    | (apply gateC; first
      | refine Cj.block rfl ?_
      | refine Cj.regionD rfl (mkD [0, 1, 2, 3, 4, 5, 6, 7, 8, 9, 10, 11, 12, 13, 15, 16] []) [] [0, 1, 2, 3, 4, 5, 6, 7, 8, 9, 10, 11, 12, 13, 14, 15, 16] mixed (by decide +kernel) ?_
      | refine Cj.condF rfl rfl (Cj.skip rfl (Ej.go ?_ (fun _ _ h => h)))
      | (refine Cj.condF rfl rfl (Cj.skip rfl (Ej.back (fun _ _ h => h) (by repeat (first | exact .refl | apply DropTo.tail)) ?_)); repeat (first | exact trivial | refine ⟨rfl, ?_⟩))
      | refine Cj.condF rfl rfl ?_
      | refine Cj.condT rfl rfl ?_
      | refine Cj.exit rfl (Ej.go ?_ (fun _ _ h => h))
      | refine Cj.cond rfl rfl (fun h => ?_) (fun h => ?_)
      | refine Cj.skip rfl (Ej.go ?_ (fun _ _ h => h))
      | (refine Cj.skip rfl (Ej.back (fun _ _ h => h) (by repeat (first | exact .refl | apply DropTo.tail)) ?_); repeat (first | exact trivial | refine ⟨rfl, ?_⟩))
      | refine Cj.seq rfl ?_
      | refine Cj.region rfl ?_))
      refine Jl.nil (Ej.cut (ι := Nat × List Value) _ _ _ _ (fun _ _ h => h) (i + 1, cs2) ⟨⟨⟨by omega, .inr (by omega)⟩, g4, fin⟩, by dsimp only; omega⟩ ⟨rfl, rfl, rfl, rfl, rfl, trivial⟩ rfl (fun p hp => hp))
    | cons y A =>
      obtain ⟨j, hj⟩ : ∃ j, A.length = j := ⟨_, rfl⟩
      have hym := g2 y List.mem_cons_self
      obtain ⟨ty, hty⟩ := List.getElem?_of_mem hym
      obtain ⟨_, hyl, hyo⟩ := hr ty y hty
      have hji : j + 1 ≤ i := by rw [List.length_cons] at g1; omega
      have hrowy : rowOf 7 cs2 (((j + 1 : Nat) : Int) - 1).toNat = y := g5 _ y (by
        rw [show (((j + 1 : Nat) : Int) - 1).toNat = j by omega, List.reverse_cons, List.append_assoc, List.getElem?_append_right (by rw [List.length_reverse, hj]; exact Nat.le_refl _), List.length_reverse, hj, Nat.sub_self]; rfl)
      have hrowx : rowOf 7 cs2 (((j + 1 : Nat) : Int)).toNat = x := g5 _ x (by
        rw [Int.toNat_natCast, List.getElem?_append_right (by rw [List.length_reverse, List.length_cons, hj]; exact Nat.le_refl _), List.length_reverse, List.length_cons, hj, Nat.sub_self]; rfl)
      have close_ : ∀ w its, WS ⟨w0, fun k => k = h⟩ w its [pC] → Calls Try.prog g (#[] ++ [.agg x.toArray, .agg y.toArray].toArray ++ lb) w fun e w' => e = .returned (.int .i64 (cf x y)) ∧ Below w.heap.size w w' := fun w its hW => by
        have := hW.at 0 rfl x y hxm hym
        rw [Array.empty_append]
        exact this
      rw [show (((y :: A).length : Nat) : Int) = ((j + 1 : Nat) : Int) by rw [List.length_cons, hj]]
      by_cases hc : cf x y < 0
      · have hcs : cs2.length = c * 7 := by omega
        have hoff1 : (((j + 1 : Nat) : Int)).toNat * 7 + y.length ≤ cs2.length := by rw [Int.toNat_natCast, hyl, hcs]; omega
        have hoff2 : (((j + 1 : Nat) : Int) - 1).toNat * 7 + x.length ≤ (wr cs2 ((((j + 1 : Nat) : Int)).toNat * 7) y).length := by rw [wr_length hoff1, show (((j + 1 : Nat) : Int) - 1).toNat = j by omega, hxl, hcs]; omega
        repeat (first
    | (apply gateO; first
      | refine Jl.yd (Y.mv rfl rfl) rfl rfl rfl ?_
      | refine Jl.yd (Y.asg rfl rfl) rfl rfl rfl ?_
      | refine Jl.yd (Y.ext rfl rfl rfl) rfl rfl rfl ?_
      | refine Jl.yd (Y.pickT rfl rfl rfl) rfl rfl rfl ?_
      | refine Jl.yd (Y.pickF rfl rfl rfl) rfl rfl rfl ?_
      | refine Jl.off rfl rfl rfl ?_
      | refine Jl.yd (Y.cmpF rfl rfl rfl rfl (by omega)) rfl rfl rfl ?_
      | refine Jl.yd (Y.cmpT rfl rfl rfl rfl (by omega)) rfl rfl rfl ?_
      | refine Jl.yd (Y.neqB rfl rfl rfl Try.underlying4) rfl rfl rfl ?_
      | refine Jl.yd (Y.cmp rfl rfl rfl rfl) rfl rfl rfl ?_
      | refine Jl.yd (Y.not rfl rfl) rfl rfl rfl ?_
      | refine Jl.yd (Y.arithN rfl rfl rfl rfl (by omega)) rfl rfl rfl ?_
      | refine Jl.yd (Y.arith64 rfl rfl rfl rfl) rfl rfl rfl ?_
      | refine Jl.yd (Y.idx0 rfl rfl rfl el46 (by omega) (by omega)) rfl rfl rfl ?_
      | refine Jl.yd (Y.loadE (u := x) rfl rfl agg40 (by repeat (first | exact .head _ | refine .tail _ ?_)) hrowx hxl) rfl rfl rfl ?_
      | refine Jl.yd (Y.loadE (u := y) rfl rfl agg40 (by repeat (first | exact .head _ | refine .tail _ ?_)) hrowy hyl) rfl rfl rfl ?_
      | refine Jl.callc (v := .int .i64 (cf x y)) rfl rfl rfl rfl rfl eg rfl (fun w hW => close_ w _ hW) ?_
      | refine Jl.splitG rfl rfl (fun h => ?_) (fun h => ?_))
    | (apply gateE; first
      | refine Jl.nil (Ej.go ?_ (fun _ _ h => h))
      | (refine Jl.nil (Ej.back (fun _ _ h => h) (by repeat (first | exact .refl | apply DropTo.tail)) ?_); repeat (first | exact trivial | refine ⟨rfl, ?_⟩)))
    | (apply gateC; first
      | refine Cj.block rfl ?_
      | refine Cj.regionD rfl (mkD [0, 1, 2, 3, 4, 5, 6, 7, 8, 9, 10, 11, 12, 13, 15, 16] []) [] [0, 1, 2, 3, 4, 5, 6, 7, 8, 9, 10, 11, 12, 13, 14, 15, 16] mixed (by decide +kernel) ?_
      | refine Cj.condF rfl rfl (Cj.skip rfl (Ej.go ?_ (fun _ _ h => h)))
      | (refine Cj.condF rfl rfl (Cj.skip rfl (Ej.back (fun _ _ h => h) (by repeat (first | exact .refl | apply DropTo.tail)) ?_)); repeat (first | exact trivial | refine ⟨rfl, ?_⟩))
      | refine Cj.condF rfl rfl ?_
      | refine Cj.condT rfl rfl ?_
      | refine Cj.exit rfl (Ej.go ?_ (fun _ _ h => h))
      | refine Cj.cond rfl rfl (fun h => ?_) (fun h => ?_)
      | refine Cj.skip rfl (Ej.go ?_ (fun _ _ h => h))
      | (refine Cj.skip rfl (Ej.back (fun _ _ h => h) (by repeat (first | exact .refl | apply DropTo.tail)) ?_); repeat (first | exact trivial | refine ⟨rfl, ?_⟩))
      | refine Cj.seq rfl ?_
      | refine Cj.region rfl ?_))
        refine Cj.regionJ rfl [15, 17] mixed ?_
        refine Jw.take 0 rfl (by decide +kernel) (by intro c a d v w h; cases d <;> exact h) (fun w => Y.mv rfl rfl) rfl rfl rfl ?_
        refine Jw.take 1 rfl (by decide +kernel) (by intro c a d v w h; cases d <;> exact h) (fun w => Y.mv rfl rfl) rfl rfl rfl ?_
        refine Jw.take 2 rfl (by decide +kernel) (by intro c a d v w h; cases d <;> exact h) (fun w => Y.mv rfl rfl) rfl rfl rfl ?_
        refine Jw.take 3 rfl (by decide +kernel) (by intro c a d v w h; cases d <;> exact h) (fun w => Y.mv rfl rfl) rfl rfl rfl ?_
        refine Jw.take 5 rfl (by decide +kernel) (by intro c a d v w h; cases d <;> exact h) (fun w => Y.mv rfl rfl) rfl rfl rfl ?_
        refine Jw.take 6 rfl (by decide +kernel) (by intro c a d v w h; cases d <;> exact h) (fun w => Y.mv rfl rfl) rfl rfl rfl ?_
        refine Jw.take 10 rfl (by decide +kernel) (by intro c a d v w h; cases d <;> exact h) (fun w => Y.mv rfl rfl) rfl rfl rfl ?_
        refine Jw.take 11 rfl (by decide +kernel) (by intro c a d v w h; cases d <;> exact h) (fun w => Y.mv rfl rfl) rfl rfl rfl ?_
        refine Jw.take 4 rfl (by decide +kernel) (by intro c a d v w h; cases d <;> exact h) (fun w => Y.arithN rfl rfl rfl rfl (by omega)) rfl rfl rfl ?_
        refine Jw.take 7 rfl (by decide +kernel) (by intro c a d v w h; cases d <;> exact h) (fun w => Y.arithN rfl rfl rfl rfl (by omega)) rfl rfl rfl ?_
        refine Jw.take 8 rfl (by decide +kernel) (by intro c a d v w h; cases d <;> exact h) (fun w => Y.idx0 rfl rfl rfl el46 (by omega) (by omega)) rfl rfl rfl ?_
        refine Jw.take 12 rfl (by decide +kernel) (by intro c a d v w h; cases d <;> exact h) (fun w => Y.idx0 rfl rfl rfl el46 (by omega) (by omega)) rfl rfl rfl ?_
        refine Jw.takeR 9 rfl (by decide +kernel) (by intro c a d v w h; cases d <;> exact h) (Y.loadE (u := y) rfl rfl agg40 (by repeat (first | exact .head _ | refine .tail _ ?_)) hrowy hyl) rfl rfl rfl ?_
        refine Jw.takeR 13 rfl (by decide +kernel) (by intro c a d v w h; cases d <;> exact h) (Y.loadE (u := x) rfl rfl agg40 (by repeat (first | exact .head _ | refine .tail _ ?_)) hrowx hxl) rfl rfl rfl ?_
        refine Jw.take 14 rfl (by decide +kernel) (by intro c a d v w h; cases d <;> exact h) (fun w => Y.idx0 rfl rfl rfl el46 (by omega) (by omega)) rfl rfl rfl ?_
        refine Jw.step (mkD [] [0]) 15 rfl (by decide +kernel) rfl rfl ?_
        refine Jl.storeB rfl rfl rfl rfl rfl sz40 (by repeat (first | exact .z | apply SetAt.s)) hyl hoff1 hyo ?_
        refine Jl.jw ?_
        refine Jw.take 16 rfl (by decide +kernel) (by intro c a d v w h; cases d <;> exact h) (fun w => Y.idx0 rfl rfl rfl el46 (by omega) (by omega)) rfl rfl rfl ?_
        refine Jw.step (mkD [] [0]) 17 rfl (by decide +kernel) rfl rfl ?_
        refine Jl.storeB rfl rfl rfl rfl rfl sz40 (by repeat (first | exact .z | apply SetAt.s)) hxl hoff2 hxo ?_
        refine Jl.jw ?_
        refine Jw.done (by decide +kernel) (Ej.go ?_ (fun _ _ h => h))
        repeat (first
    | (apply gateO; first
      | refine Jl.yd (Y.mv rfl rfl) rfl rfl rfl ?_
      | refine Jl.yd (Y.asg rfl rfl) rfl rfl rfl ?_
      | refine Jl.yd (Y.ext rfl rfl rfl) rfl rfl rfl ?_
      | refine Jl.yd (Y.pickT rfl rfl rfl) rfl rfl rfl ?_
      | refine Jl.yd (Y.pickF rfl rfl rfl) rfl rfl rfl ?_
      | refine Jl.off rfl rfl rfl ?_
      | refine Jl.yd (Y.cmpF rfl rfl rfl rfl (by omega)) rfl rfl rfl ?_
      | refine Jl.yd (Y.cmpT rfl rfl rfl rfl (by omega)) rfl rfl rfl ?_
      | refine Jl.yd (Y.neqB rfl rfl rfl Try.underlying4) rfl rfl rfl ?_
      | refine Jl.yd (Y.cmp rfl rfl rfl rfl) rfl rfl rfl ?_
      | refine Jl.yd (Y.not rfl rfl) rfl rfl rfl ?_
      | refine Jl.yd (Y.arithN rfl rfl rfl rfl (by omega)) rfl rfl rfl ?_
      | refine Jl.yd (Y.arith64 rfl rfl rfl rfl) rfl rfl rfl ?_
      | refine Jl.yd (Y.idx0 rfl rfl rfl el46 (by omega) (by omega)) rfl rfl rfl ?_
      | refine Jl.splitG rfl rfl (fun h => ?_) (fun h => ?_))
    | (apply gateE; first
      | refine Jl.nil (Ej.go ?_ (fun _ _ h => h))
      | (refine Jl.nil (Ej.back (fun _ _ h => h) (by repeat (first | exact .refl | apply DropTo.tail)) ?_); repeat (first | exact trivial | refine ⟨rfl, ?_⟩)))
    | (apply gateC; first
      | refine Cj.block rfl ?_
      | refine Cj.condF rfl rfl (Cj.skip rfl (Ej.go ?_ (fun _ _ h => h)))
      | (refine Cj.condF rfl rfl (Cj.skip rfl (Ej.back (fun _ _ h => h) (by repeat (first | exact .refl | apply DropTo.tail)) ?_)); repeat (first | exact trivial | refine ⟨rfl, ?_⟩))
      | refine Cj.condF rfl rfl ?_
      | refine Cj.condT rfl rfl ?_
      | refine Cj.exit rfl (Ej.go ?_ (fun _ _ h => h))
      | refine Cj.cond rfl rfl (fun h => ?_) (fun h => ?_)
      | refine Cj.skip rfl (Ej.go ?_ (fun _ _ h => h))
      | (refine Cj.skip rfl (Ej.back (fun _ _ h => h) (by repeat (first | exact .refl | apply DropTo.tail)) ?_); repeat (first | exact trivial | refine ⟨rfl, ?_⟩))
      | refine Cj.seq rfl ?_
      | refine Cj.region rfl ?_))
        refine Jl.nil (Ej.cut (ι := List (List Value) × List (List Value) × List Value) _ _ _ _ (fun _ _ h => h) (A, y :: B, wr (wr cs2 ((((j + 1 : Nat) : Int)).toNat * 7) y) ((((j + 1 : Nat) : Int) - 1).toNat * 7) x) ⟨⟨⟨by simp only [List.length_cons] at g1 ⊢; omega, fun z hz => g2 z (List.mem_cons_of_mem _ hz)⟩, ?_, ?_, ?_⟩, by dsimp only; rw [List.length_cons]; exact Nat.lt_succ_self _⟩ ⟨rfl, rfl, rfl, rfl, rfl, ?_, trivial⟩ rfl (fun p hp => hp))
        · rw [← g3]
          conv => rhs; unfold goI
          rw [if_pos (by unfold ltc; simpa using hc)]
        · dsimp only
          rw [wr_length hoff2, wr_length hoff1]
          exact g4
        · dsimp only
          rw [show (((j + 1 : Nat) : Int) - 1).toNat = j by omega, Int.toNat_natCast] at *
          intro t us ht
          have hAl : A.reverse.length = j := by rw [List.length_reverse, hj]
          have old : ∀ t us, (A.reverse ++ y :: x :: (B ++ rows.drop (i + 1)))[t]? = some us → rowOf 7 cs2 t = us := fun t us h => g5 t us (by rw [List.reverse_cons, List.append_assoc]; exact h)
          rcases Nat.lt_trichotomy t j with h | h | h
          · rw [rowOf_wr_lt hoff2 h, rowOf_wr_lt hoff1 (by omega)]
            refine old t us ?_
            rw [List.getElem?_append_left (by omega)] at ht ⊢
            exact ht
          · subst h
            rw [List.getElem?_append_right (by omega), hAl, Nat.sub_self] at ht
            obtain rfl : x = us := by simpa using ht
            exact rowOf_wr_eq hxl (by rw [hxl] at hoff2; exact hoff2)
          · rw [rowOf_wr_gt hoff2 (by omega) h]
            rw [List.getElem?_append_right (by omega), hAl] at ht
            by_cases h' : t = j + 1
            · subst h'
              rw [show j + 1 - j = 1 by omega] at ht
              obtain rfl : y = us := by simpa using ht
              exact rowOf_wr_eq hyl (by rw [hyl] at hoff1; exact hoff1)
            · rw [rowOf_wr_gt hoff1 (by omega) (by omega)]
              refine old t us ?_
              rw [List.getElem?_append_right (by omega), hAl]
              obtain ⟨d, rfl⟩ : ∃ d, t = j + (d + 2) := ⟨t - j - 2, by omega⟩
              rw [show j + (d + 2) - j = d + 2 by omega] at ht ⊢
              simpa using ht
        · show some (Value.int .i64 (((j + 1 : Nat) : Int) - 1)) = some (.int .i64 ((A.length : Nat) : Int))
          rw [hj, show ((j + 1 : Nat) : Int) - 1 = (j : Int) by omega]
      · repeat (first
    | (apply gateO; first
      | refine Jl.yd (Y.mv rfl rfl) rfl rfl rfl ?_
      | refine Jl.yd (Y.asg rfl rfl) rfl rfl rfl ?_
      | refine Jl.yd (Y.ext rfl rfl rfl) rfl rfl rfl ?_
      | refine Jl.yd (Y.pickT rfl rfl rfl) rfl rfl rfl ?_
      | refine Jl.yd (Y.pickF rfl rfl rfl) rfl rfl rfl ?_
      | refine Jl.off rfl rfl rfl ?_
      | refine Jl.yd (Y.cmpF rfl rfl rfl rfl (by omega)) rfl rfl rfl ?_
      | refine Jl.yd (Y.cmpT rfl rfl rfl rfl (by omega)) rfl rfl rfl ?_
      | refine Jl.yd (Y.neqB rfl rfl rfl Try.underlying4) rfl rfl rfl ?_
      | refine Jl.yd (Y.cmp rfl rfl rfl rfl) rfl rfl rfl ?_
      | refine Jl.yd (Y.not rfl rfl) rfl rfl rfl ?_
      | refine Jl.yd (Y.arithN rfl rfl rfl rfl (by omega)) rfl rfl rfl ?_
      | refine Jl.yd (Y.arith64 rfl rfl rfl rfl) rfl rfl rfl ?_
      | refine Jl.yd (Y.idx0 rfl rfl rfl el46 (by omega) (by omega)) rfl rfl rfl ?_
      | refine Jl.yd (Y.loadE (u := x) rfl rfl agg40 (by repeat (first | exact .head _ | refine .tail _ ?_)) hrowx hxl) rfl rfl rfl ?_
      | refine Jl.yd (Y.loadE (u := y) rfl rfl agg40 (by repeat (first | exact .head _ | refine .tail _ ?_)) hrowy hyl) rfl rfl rfl ?_
      | refine Jl.callc (v := .int .i64 (cf x y)) rfl rfl rfl rfl rfl eg rfl (fun w hW => close_ w _ hW) ?_
      | refine Jl.splitG rfl rfl (fun h => ?_) (fun h => ?_))
    | (apply gateE; first
      | refine Jl.nil (Ej.go ?_ (fun _ _ h => h))
      | (refine Jl.nil (Ej.back (fun _ _ h => h) (by repeat (first | exact .refl | apply DropTo.tail)) ?_); repeat (first | exact trivial | refine ⟨rfl, ?_⟩)))
    | (apply gateC; first
      | refine Cj.block rfl ?_
      | refine Cj.regionD rfl (mkD [0, 1, 2, 3, 4, 5, 6, 7, 8, 9, 10, 11, 12, 13, 15, 16] []) [] [0, 1, 2, 3, 4, 5, 6, 7, 8, 9, 10, 11, 12, 13, 14, 15, 16] mixed (by decide +kernel) ?_
      | refine Cj.condF rfl rfl (Cj.skip rfl (Ej.go ?_ (fun _ _ h => h)))
      | (refine Cj.condF rfl rfl (Cj.skip rfl (Ej.back (fun _ _ h => h) (by repeat (first | exact .refl | apply DropTo.tail)) ?_)); repeat (first | exact trivial | refine ⟨rfl, ?_⟩))
      | refine Cj.condF rfl rfl ?_
      | refine Cj.condT rfl rfl ?_
      | refine Cj.exit rfl (Ej.go ?_ (fun _ _ h => h))
      | refine Cj.cond rfl rfl (fun h => ?_) (fun h => ?_)
      | refine Cj.skip rfl (Ej.go ?_ (fun _ _ h => h))
      | (refine Cj.skip rfl (Ej.back (fun _ _ h => h) (by repeat (first | exact .refl | apply DropTo.tail)) ?_); repeat (first | exact trivial | refine ⟨rfl, ?_⟩))
      | refine Cj.seq rfl ?_
      | refine Cj.region rfl ?_))
        have fin := fin (by unfold goI; rw [if_neg (by unfold ltc; simpa using hc)]; simp)
        refine Jl.nil (Ej.cut (ι := Nat × List Value) _ _ _ _ (fun _ _ h => h) (i + 1, cs2) ⟨⟨⟨by omega, .inr (by omega)⟩, g4, fin⟩, by dsimp only; omega⟩ ⟨rfl, rfl, rfl, rfl, rfl, trivial⟩ rfl (fun p hp => hp))
  · repeat (first
    | (apply gateO; first
      | refine Jl.yd (Y.mv rfl rfl) rfl rfl rfl ?_
      | refine Jl.yd (Y.asg rfl rfl) rfl rfl rfl ?_
      | refine Jl.yd (Y.ext rfl rfl rfl) rfl rfl rfl ?_
      | refine Jl.yd (Y.pickT rfl rfl rfl) rfl rfl rfl ?_
      | refine Jl.yd (Y.pickF rfl rfl rfl) rfl rfl rfl ?_
      | refine Jl.off rfl rfl rfl ?_
      | refine Jl.yd (Y.cmpF rfl rfl rfl rfl (by omega)) rfl rfl rfl ?_
      | refine Jl.yd (Y.cmpT rfl rfl rfl rfl (by omega)) rfl rfl rfl ?_
      | refine Jl.yd (Y.neqB rfl rfl rfl Try.underlying4) rfl rfl rfl ?_
      | refine Jl.yd (Y.cmp rfl rfl rfl rfl) rfl rfl rfl ?_
      | refine Jl.yd (Y.not rfl rfl) rfl rfl rfl ?_
      | refine Jl.yd (Y.arithN rfl rfl rfl rfl (by omega)) rfl rfl rfl ?_
      | refine Jl.yd (Y.arith64 rfl rfl rfl rfl) rfl rfl rfl ?_
      | refine Jl.yd (Y.idx0 rfl rfl rfl el46 (by omega) (by omega)) rfl rfl rfl ?_
      | refine Jl.splitG rfl rfl (fun h => ?_) (fun h => ?_))
    | (apply gateE; first
      | refine Jl.nil (Ej.go ?_ (fun _ _ h => h))
      | (refine Jl.nil (Ej.back (fun _ _ h => h) (by repeat (first | exact .refl | apply DropTo.tail)) ?_); repeat (first | exact trivial | refine ⟨rfl, ?_⟩)))
    | (apply gateC; first
      | refine Cj.block rfl ?_
      | refine Cj.condF rfl rfl (Cj.skip rfl (Ej.go ?_ (fun _ _ h => h)))
      | (refine Cj.condF rfl rfl (Cj.skip rfl (Ej.back (fun _ _ h => h) (by repeat (first | exact .refl | apply DropTo.tail)) ?_)); repeat (first | exact trivial | refine ⟨rfl, ?_⟩))
      | refine Cj.condF rfl rfl ?_
      | refine Cj.condT rfl rfl ?_
      | refine Cj.exit rfl (Ej.go ?_ (fun _ _ h => h))
      | refine Cj.cond rfl rfl (fun h => ?_) (fun h => ?_)
      | refine Cj.skip rfl (Ej.go ?_ (fun _ _ h => h))
      | (refine Cj.skip rfl (Ej.back (fun _ _ h => h) (by repeat (first | exact .refl | apply DropTo.tail)) ?_); repeat (first | exact trivial | refine ⟨rfl, ?_⟩))
      | refine Cj.seq rfl ?_
      | refine Cj.region rfl ?_))
    refine Cj.exit rfl (Ej.out0 (P := Try.prog) (fn := Try.f98) (R := Rr) (fun _ _ h => h) rfl (fun w' hW => ?_))
    have hi2 : rows.take i = rows := List.take_of_length_le (by omega)
    have hi3 : rows.drop i = [] := List.drop_eq_nil_of_le (by omega)
    rw [hi2, hi3, List.append_nil] at h4
    exact ⟨rfl, cs1, by omega, Box_at hW (List.mem_cons_self), h4, hW.aft⟩
theorem en98 : Ent Try.prog 98 := ⟨enters_of Try.func98 (by kernel_rfl) rfl⟩
theorem en96 : Ent Try.prog 96 := ⟨enters_of Try.func96 (by kernel_rfl) rfl⟩
theorem en97 : Ent Try.prog 97 := ⟨enters_of Try.func97 (by kernel_rfl) rfl⟩
theorem ins (g : Nat) (lb : Array Value) (eg : Ent Try.prog g) (cf : List Value → List Value → Int) (w : World) (A : Nat → Prop) (h c : Nat) (rows : List (List Value)) (hA : (Item.row (Kd.raw 7) 40 0 (.slice (some ⟨h, 0, none⟩) rows.length c) rows).p w A) (hC : ∀ W, Aft A w W → ∀ x y, x ∈ rows → y ∈ rows → Calls Try.prog g (#[.agg x.toArray, .agg y.toArray] ++ lb) W fun e W' => e = .returned (.int .i64 (cf x y)) ∧ Below W.heap.size W W') : Calls Try.prog 98 #[.slice (some ⟨h, 0, none⟩) rows.length c, .int .i64 0, .int .i64 (rows.length : Int), .func (.func g) #[] lb] w fun e w' => e = .returned (.tuple #[]) ∧ ∃ A', (Item.row (Kd.raw 7) 40 0 (.slice (some ⟨h, 0, none⟩) rows.length c) (isort (ltc cf) rows)).p w' A' ∧ (∀ k, A' k → k < w.heap.size → A k) ∧ Aft A w w' := by
  obtain ⟨cs, hh, hcl, _, hn, hnc, hcx, hr⟩ := raw_box hA.1
  have hAh : A h := hA.1.1 h (by simp [Value.ownBlock])
  have wk : ∀ W, Aft (fun k => k = h) w W → Aft A w W := fun W ha => ⟨ha.os, ha.tape, ha.output, ha.size, fun k hk hn => ha.block k hk (fun e => hn (e ▸ hAh))⟩
  refine (run g lb eg cf w h c rows cs hh hcl (by omega) hcx hr (fun W hW => hC W (wk W hW))).mono ?_
  rintro e w' ⟨rfl, cs', h1, h2, h3, h4⟩
  refine ⟨rfl, fun k => k = h, ⟨box_raw h2 h1 (Nat.zero_le _) (by rw [isort_len]) (by omega) hcx rfl (fun j us hj => ⟨h3 j us hj, ?_⟩), fun k hk => ?_⟩, fun k hk _ => hk ▸ hAh, wk w' h4⟩
  · obtain ⟨t, ht⟩ := List.getElem?_of_mem (isort_mem (List.mem_of_getElem? hj))
    exact (hr t us ht).2
  · rw [hk]
    exact blk_lt h2
set_option maxHeartbeats 4000000 in
theorem pdq (g : Nat) (lb : Array Value) (eg : Ent Try.prog g) (cf : List Value → List Value → Int) (w : World) (A : Nat → Prop) (h c : Nat) (rows : List (List Value)) (hA : (Item.row (Kd.raw 7) 40 0 (.slice (some ⟨h, 0, none⟩) rows.length c) rows).p w A) (hC : ∀ W, Aft A w W → ∀ x y, x ∈ rows → y ∈ rows → Calls Try.prog g (#[.agg x.toArray, .agg y.toArray] ++ lb) W fun e W' => e = .returned (.int .i64 (cf x y)) ∧ Below W.heap.size W W') (l : Int) (h12 : rows.length ≤ 12) : Calls Try.prog 96 #[.slice (some ⟨h, 0, none⟩) rows.length c, .int .i64 0, .int .i64 (rows.length : Int), .int .i64 l, .func (.func g) #[] lb] w fun e w' => e = .returned (.tuple #[]) ∧ ∃ A', (Item.row (Kd.raw 7) 40 0 (.slice (some ⟨h, 0, none⟩) rows.length c) (isort (ltc cf) rows)).p w' A' ∧ (∀ k, A' k → k < w.heap.size → A k) ∧ Aft A w w' := by
  let Rr : Ending → World → Prop := fun e w' => e = .returned (.tuple #[]) ∧ ∃ A', (Item.row (Kd.raw 7) 40 0 (.slice (some ⟨h, 0, none⟩) rows.length c) (isort (ltc cf) rows)).p w' A' ∧ (∀ k, A' k → k < w.heap.size → A k) ∧ Aft A w w'
  let pC : World → Prop := fun W => ∀ x y, x ∈ rows → y ∈ rows → Calls Try.prog g (#[.agg x.toArray, .agg y.toArray] ++ lb) W fun e W' => e = .returned (.int .i64 (cf x y)) ∧ Below W.heap.size W W'
  refine enterS (S := A) (args := [.slice (some ⟨h, 0, none⟩) rows.length c, .int .i64 0, .int .i64 (rows.length : Int), .int .i64 l, .func (.func g) #[] lb]) [.row (Kd.raw 7) 40 0 (.slice (some ⟨h, 0, none⟩) rows.length c) rows] [pC] (Own.single hA) (fun q hq => by rw [List.mem_singleton.1 hq]; exact fun W hW => hC W hW) Try.func96 rfl rfl ?_
  show Cj Try.prog _ _ _ (bodyPost Try.prog Try.f96 Rr) _ _ _
  repeat (first
    | (apply gateO; first
      | refine Jl.yd (Y.mv rfl rfl) rfl rfl rfl ?_
      | refine Jl.yd (Y.asg rfl rfl) rfl rfl rfl ?_
      | refine Jl.yd (Y.ext rfl rfl rfl) rfl rfl rfl ?_
      | refine Jl.yd (Y.pickT rfl rfl rfl) rfl rfl rfl ?_
      | refine Jl.yd (Y.pickF rfl rfl rfl) rfl rfl rfl ?_
      | refine Jl.off rfl rfl rfl ?_
      | refine Jl.yd (Y.cmpF rfl rfl rfl rfl (by omega)) rfl rfl rfl ?_
      | refine Jl.yd (Y.cmpT rfl rfl rfl rfl (by omega)) rfl rfl rfl ?_
      | refine Jl.yd (Y.neqB rfl rfl rfl Try.underlying4) rfl rfl rfl ?_
      | refine Jl.yd (Y.cmp rfl rfl rfl rfl) rfl rfl rfl ?_
      | refine Jl.yd (Y.not rfl rfl) rfl rfl rfl ?_
      | refine Jl.yd (Y.arithN rfl rfl rfl rfl (by omega)) rfl rfl rfl ?_
      | refine Jl.yd (Y.arith64 rfl rfl rfl rfl) rfl rfl rfl ?_
      | refine Jl.yd (Y.lenS Try.underlying46 rfl rfl rfl) rfl rfl rfl ?_
      | refine Jl.splitG rfl rfl (fun h => ?_) (fun h => ?_))
    | (apply gateE; first
      | refine Jl.nil (Ej.go ?_ (fun _ _ h => h))
      | (refine Jl.nil (Ej.back (fun _ _ h => h) (by repeat (first | exact .refl | apply DropTo.tail)) ?_); repeat (first | exact trivial | refine ⟨rfl, ?_⟩)))
    | (apply gateC; first
      | refine Cj.block rfl ?_
      | refine Cj.condF rfl rfl (Cj.skip rfl (Ej.go ?_ (fun _ _ h => h)))
      | (refine Cj.condF rfl rfl (Cj.skip rfl (Ej.back (fun _ _ h => h) (by repeat (first | exact .refl | apply DropTo.tail)) ?_)); repeat (first | exact trivial | refine ⟨rfl, ?_⟩))
      | refine Cj.condF rfl rfl ?_
      | refine Cj.condT rfl rfl ?_
      | refine Cj.exit rfl (Ej.go ?_ (fun _ _ h => h))
      | refine Cj.cond rfl rfl (fun h => ?_) (fun h => ?_)
      | refine Cj.skip rfl (Ej.go ?_ (fun _ _ h => h))
      | (refine Cj.skip rfl (Ej.back (fun _ _ h => h) (by repeat (first | exact .refl | apply DropTo.tail)) ?_); repeat (first | exact trivial | refine ⟨rfl, ?_⟩))
      | refine Cj.seq rfl ?_
      | refine Cj.region rfl ?_))
  refine Cj.loop (ι := Unit) (fun _ => True) (fun p => [(0, .slice (some ⟨h, 0, none⟩) rows.length c), (1, .int .i64 0), (2, .int .i64 (rows.length : Int)), (3, .int .i64 l), (4, .func (.func g) #[] lb)]) (fun _ => [.row (Kd.raw 7) 40 0 (.slice (some ⟨h, 0, none⟩) rows.length c) rows]) (fun _ => [pC]) (fun _ => 0) rfl () trivial ⟨rfl, rfl, rfl, rfl, rfl, trivial⟩ rfl (fun p hp => hp) (fun p hp => ?_)
  repeat (first
    | (apply gateO; first
      | refine Jl.yd (Y.mv rfl rfl) rfl rfl rfl ?_
      | refine Jl.yd (Y.asg rfl rfl) rfl rfl rfl ?_
      | refine Jl.yd (Y.ext rfl rfl rfl) rfl rfl rfl ?_
      | refine Jl.yd (Y.pickT rfl rfl rfl) rfl rfl rfl ?_
      | refine Jl.yd (Y.pickF rfl rfl rfl) rfl rfl rfl ?_
      | refine Jl.off rfl rfl rfl ?_
      | refine Jl.yd (Y.cmpF rfl rfl rfl rfl (by omega)) rfl rfl rfl ?_
      | refine Jl.yd (Y.cmpT rfl rfl rfl rfl (by omega)) rfl rfl rfl ?_
      | refine Jl.yd (Y.neqB rfl rfl rfl Try.underlying4) rfl rfl rfl ?_
      | refine Jl.yd (Y.cmp rfl rfl rfl rfl) rfl rfl rfl ?_
      | refine Jl.yd (Y.not rfl rfl) rfl rfl rfl ?_
      | refine Jl.yd (Y.arithN rfl rfl rfl rfl (by omega)) rfl rfl rfl ?_
      | refine Jl.yd (Y.arith64 rfl rfl rfl rfl) rfl rfl rfl ?_
      | refine Jl.yd (Y.lenS Try.underlying46 rfl rfl rfl) rfl rfl rfl ?_
      | refine Jl.callX (ι := Unit) (fun _ => True) (fun _ => .tuple #[]) (.row (Kd.raw 7) 40 0 (.slice (some ⟨h, 0, none⟩) rows.length c) rows) (fun _ => (.row (Kd.raw 7) 40 0 (.slice (some ⟨h, 0, none⟩) rows.length c) (isort (ltc cf) rows))) rfl rfl rfl rfl en98 rfl .z (fun w A' hA' hB => (ins g lb eg cf w A' h c rows hA' (fun W hW => (hB W hW).at 0 rfl)).mono (fun e w' hh => ⟨(), trivial, hh.1, hh.2⟩)) (fun _ _ => ?_)
      | refine Jl.splitG rfl rfl (fun h => ?_) (fun h => ?_))
    | (apply gateE; first
      | refine Jl.nil (Ej.go ?_ (fun _ _ h => h))
      | (refine Jl.nil (Ej.back (fun _ _ h => h) (by repeat (first | exact .refl | apply DropTo.tail)) ?_); repeat (first | exact trivial | refine ⟨rfl, ?_⟩)))
    | (apply gateC; first
      | refine Cj.block rfl ?_
      | refine Cj.ret rfl (Ej.out0 (P := Try.prog) (fn := Try.f96) (R := Rr) (fun _ _ h => h) rfl (fun w' hW => ?_))
      | refine Cj.condF rfl rfl (Cj.skip rfl (Ej.go ?_ (fun _ _ h => h)))
      | (refine Cj.condF rfl rfl (Cj.skip rfl (Ej.back (fun _ _ h => h) (by repeat (first | exact .refl | apply DropTo.tail)) ?_)); repeat (first | exact trivial | refine ⟨rfl, ?_⟩))
      | refine Cj.condF rfl rfl ?_
      | refine Cj.condT rfl rfl ?_
      | refine Cj.exit rfl (Ej.go ?_ (fun _ _ h => h))
      | refine Cj.cond rfl rfl (fun h => ?_) (fun h => ?_)
      | refine Cj.skip rfl (Ej.go ?_ (fun _ _ h => h))
      | (refine Cj.skip rfl (Ej.back (fun _ _ h => h) (by repeat (first | exact .refl | apply DropTo.tail)) ?_); repeat (first | exact trivial | refine ⟨rfl, ?_⟩))
      | refine Cj.seq rfl ?_
      | refine Cj.region rfl ?_))
  obtain ⟨A', g1, g2, g3⟩ := hW.end1
  exact ⟨rfl, A', g1, g2, g3⟩
set_option maxHeartbeats 4000000 in
/-- slices.SortFunc at 12 or fewer. -/
theorem sortF (g : Nat) (lb : Array Value) (eg : Ent Try.prog g) (cf : List Value → List Value → Int) (w : World) (A : Nat → Prop) (h c : Nat) (rows : List (List Value)) (hA : (Item.row (Kd.raw 7) 40 0 (.slice (some ⟨h, 0, none⟩) rows.length c) rows).p w A) (hC : ∀ W, Aft A w W → ∀ x y, x ∈ rows → y ∈ rows → Calls Try.prog g (#[.agg x.toArray, .agg y.toArray] ++ lb) W fun e W' => e = .returned (.int .i64 (cf x y)) ∧ Below W.heap.size W W') (h12 : rows.length ≤ 12) : Calls Try.prog 79 #[.slice (some ⟨h, 0, none⟩) rows.length c, .func (.func g) #[] lb] w fun e w' => e = .returned (.tuple #[]) ∧ ∃ A', (Item.row (Kd.raw 7) 40 0 (.slice (some ⟨h, 0, none⟩) rows.length c) (isort (ltc cf) rows)).p w' A' ∧ (∀ k, A' k → k < w.heap.size → A k) ∧ Aft A w w' := by
  let Rr : Ending → World → Prop := fun e w' => e = .returned (.tuple #[]) ∧ ∃ A', (Item.row (Kd.raw 7) 40 0 (.slice (some ⟨h, 0, none⟩) rows.length c) (isort (ltc cf) rows)).p w' A' ∧ (∀ k, A' k → k < w.heap.size → A k) ∧ Aft A w w'
  let pC : World → Prop := fun W => ∀ x y, x ∈ rows → y ∈ rows → Calls Try.prog g (#[.agg x.toArray, .agg y.toArray] ++ lb) W fun e W' => e = .returned (.int .i64 (cf x y)) ∧ Below W.heap.size W W'
  refine enterS (S := A) (args := [.slice (some ⟨h, 0, none⟩) rows.length c, .func (.func g) #[] lb]) [.row (Kd.raw 7) 40 0 (.slice (some ⟨h, 0, none⟩) rows.length c) rows] [pC] (Own.single hA) (fun q hq => by rw [List.mem_singleton.1 hq]; exact fun W hW => hC W hW) Try.func79 rfl rfl ?_
  show Cj Try.prog _ _ _ (bodyPost Try.prog Try.f79 Rr) _ _ _
  repeat (first
    | (apply gateO; first
      | refine Jl.yd (Y.mv rfl rfl) rfl rfl rfl ?_
      | refine Jl.yd (Y.asg rfl rfl) rfl rfl rfl ?_
      | refine Jl.yd (Y.ext rfl rfl rfl) rfl rfl rfl ?_
      | refine Jl.yd (Y.pickT rfl rfl rfl) rfl rfl rfl ?_
      | refine Jl.yd (Y.pickF rfl rfl rfl) rfl rfl rfl ?_
      | refine Jl.off rfl rfl rfl ?_
      | refine Jl.yd (Y.cmpF rfl rfl rfl rfl (by omega)) rfl rfl rfl ?_
      | refine Jl.yd (Y.cmpT rfl rfl rfl rfl (by omega)) rfl rfl rfl ?_
      | refine Jl.yd (Y.neqB rfl rfl rfl Try.underlying4) rfl rfl rfl ?_
      | refine Jl.yd (Y.cmp rfl rfl rfl rfl) rfl rfl rfl ?_
      | refine Jl.yd (Y.not rfl rfl) rfl rfl rfl ?_
      | refine Jl.yd (Y.arithN rfl rfl rfl rfl (by omega)) rfl rfl rfl ?_
      | refine Jl.yd (Y.arith64 rfl rfl rfl rfl) rfl rfl rfl ?_
      | refine Jl.yd (Y.lenS Try.underlying46 rfl rfl rfl) rfl rfl rfl ?_
      | refine Jl.yd (Y.convU rfl rfl Try.underlying3 Try.underlying103 (by omega) (by omega)) rfl rfl rfl ?_
      | refine Jl.call (ι := Int) (fun _ => True) (fun l => .int .i64 l) (fun _ => [.row (Kd.raw 7) 40 0 (.slice (some ⟨h, 0, none⟩) rows.length c) rows]) (fun _ => [pC]) rfl rfl rfl rfl rfl en97 rfl (fun w hW => (bitsLen rows.length w h12).mono (fun e w' hh => ⟨hh.1.choose, hh.1.choose_spec, trivial, hW.call hh.2, fun _ => hh.2⟩)) (fun l _ => ?_)
      | refine Jl.callX (ι := Unit) (fun _ => True) (fun _ => .tuple #[]) (.row (Kd.raw 7) 40 0 (.slice (some ⟨h, 0, none⟩) rows.length c) rows) (fun _ => (.row (Kd.raw 7) 40 0 (.slice (some ⟨h, 0, none⟩) rows.length c) (isort (ltc cf) rows))) rfl rfl rfl rfl en96 rfl .z (fun w A' hA' hB => (pdq g lb eg cf w A' h c rows hA' (fun W hW => (hB W hW).at 0 rfl) l h12).mono (fun e w' hh => ⟨(), trivial, hh.1, hh.2⟩)) (fun _ _ => ?_)
      | refine Jl.splitG rfl rfl (fun h => ?_) (fun h => ?_))
    | (apply gateE; first
      | refine Jl.nil (Ej.go ?_ (fun _ _ h => h))
      | (refine Jl.nil (Ej.back (fun _ _ h => h) (by repeat (first | exact .refl | apply DropTo.tail)) ?_); repeat (first | exact trivial | refine ⟨rfl, ?_⟩)))
    | (apply gateC; first
      | refine Cj.block rfl ?_
      | refine Cj.condF rfl rfl (Cj.skip rfl (Ej.go ?_ (fun _ _ h => h)))
      | (refine Cj.condF rfl rfl (Cj.skip rfl (Ej.back (fun _ _ h => h) (by repeat (first | exact .refl | apply DropTo.tail)) ?_)); repeat (first | exact trivial | refine ⟨rfl, ?_⟩))
      | refine Cj.condF rfl rfl ?_
      | refine Cj.condT rfl rfl ?_
      | refine Cj.exit rfl (Ej.go ?_ (fun _ _ h => h))
      | refine Cj.cond rfl rfl (fun h => ?_) (fun h => ?_)
      | refine Cj.skip rfl (Ej.go ?_ (fun _ _ h => h))
      | (refine Cj.skip rfl (Ej.back (fun _ _ h => h) (by repeat (first | exact .refl | apply DropTo.tail)) ?_); repeat (first | exact trivial | refine ⟨rfl, ?_⟩))
      | refine Cj.seq rfl ?_
      | refine Cj.region rfl ?_))
  refine Jl.nil (Ej.out0 (P := Try.prog) (fn := Try.f79) (R := Rr) (fun _ _ h => h) rfl (fun w' hW => ?_))
  obtain ⟨A', g1, g2, g3⟩ := hW.end1
  exact ⟨rfl, A', g1, g2, g3⟩
end Ins98
end Go.Proofs.Ytembbdhhpblapaa.WK

namespace Go.Proofs.Ytembbdhhpblapaa.WK
open Go Go.RowKit Go.Proofs.Ytembbdhhpblapaa.Q Go.Proofs.Ytembbdhhpblapaa.M Go.Proofs.YtembbdhhpblapaaW.PrintWords Go.Proofs.YtembbdhhpblapaaW.Pl Go.Proofs.YtembbdhhpblapaaW.SL
set_option linter.unusedSimpArgs false
set_option linter.unusedVariables false
set_option maxRecDepth 100000
namespace Del76
theorem agg40 : AggT Try.prog 40 7 := ⟨by kernel_rfl⟩
theorem sz40 : SzT Try.prog 40 7 := ⟨by kernel_rfl⟩
theorem zero40 : ZeroT Try.prog 40 [.int .i64 0, .int .i64 0, .int .i64 0, .int .i64 0, .int .i64 0, .bool false, .int .i64 0] := ⟨by kernel_rfl⟩
theorem el46 : ElT Try.prog 46 40 7 := ⟨by kernel_rfl⟩
theorem en95 : Ent Try.prog 95 := ⟨enters_of Try.func95 (by kernel_rfl) rfl⟩
/-- What stays. -/
def kept (p : S40 → Bool) (xs : List S40) (rows : List (List Value)) (j : Nat) : List (S40 × List Value) := ((xs.zip rows).take j).filter (fun q => !p q.1)
theorem kept_len (p) (xs : List S40) (rows) (j : Nat) : (kept p xs rows j).length ≤ j := Nat.le_trans (List.length_filter_le _ _) (by rw [List.length_take]; omega)
theorem kept_succ {p : S40 → Bool} {xs : List S40} {rows : List (List Value)} {j : Nat} {x : S40} {u : List Value} (hx : xs[j]? = some x) (hu : rows[j]? = some u) : kept p xs rows (j + 1) = kept p xs rows j ++ (if p x = true then [] else [(x, u)]) := by
  unfold kept
  have hz : (xs.zip rows)[j]? = some (x, u) := by rw [List.getElem?_zip_eq_some]; exact ⟨hx, hu⟩
  rw [List.take_add_one, hz, List.filter_append]
  cases hp : p x <;> simp [hp]
theorem kept_all {p : S40 → Bool} {xs : List S40} {rows : List (List Value)} (h : ∀ x, x ∈ xs → p x = false) (j : Nat) : kept p xs rows j = (xs.zip rows).take j := by
  unfold kept
  rw [List.filter_eq_self]
  intro q hq
  have := h q.1 (List.of_mem_zip (List.mem_of_mem_take hq)).1
  simp [this]
theorem idx_cases (p : S40 → Bool) (xs : List S40) : (idx p xs = -1 ∧ ∀ x, x ∈ xs → p x = false) ∨ ∃ (i : Nat) (x : S40), xs[i]? = some x ∧ idx p xs = (i : Int) ∧ p x = true ∧ ∀ y, y ∈ xs.take i → p y = false := by
  unfold idx
  cases h : xs.findIdx? p with
  | none => exact .inl ⟨rfl, by simpa using h⟩
  | some i =>
    rw [List.findIdx?_eq_some_iff_getElem] at h
    obtain ⟨h1, h2, h3⟩ := h
    refine .inr ⟨i, xs[i], List.getElem?_eq_getElem h1, rfl, h2, fun y hy => ?_⟩
    obtain ⟨j, hj, rfl⟩ := List.mem_iff_getElem.1 hy
    have hj' : j < i := by rw [List.length_take] at hj; omega
    rw [List.getElem_take]
    simpa using h3 j hj'
set_option maxHeartbeats 8000000 in
theorem run (g : Nat) (lb : Array Value) (eg : Ent Try.prog g) (p : S40 → Bool) (w0 : World) (h c : Nat) (rows : List (List Value)) (xs : List S40) (cs : List Value)
    (hh : w0.heap[h]? = some (.cells cs.toArray 40 (0, 0))) (hcl : cs.length = c * 7) (hl : rows.length = xs.length) (hnc : xs.length ≤ c) (hcx : c ≤ maxLen)
    (hr : ∀ j us, rows[j]? = some us → rowOf 7 cs j = us ∧ us.length = 7 ∧ ∀ u ∈ us, u.oneCell' = true)
    (hK : ∀ W, Aft (fun k => k = h) w0 W → ∀ (j : Nat) x us, xs[j]? = some x → rows[j]? = some us → k40.K W x us)
    (hC : ∀ W, Aft (fun k => k = h) w0 W → ∀ x, x ∈ xs → ∀ us, k40.K W x us → Calls Try.prog g (#[.agg us.toArray] ++ lb) W fun e W' => e = .returned (.bool (p x)) ∧ Below W.heap.size W W') :
    Calls Try.prog 76 #[.slice (some ⟨h, 0, none⟩) xs.length c, .func (.func g) #[] lb] w0 fun e w' => e = .returned (.slice (some ⟨h, 0, none⟩) (kept p xs rows xs.length).length c) ∧ ∃ cs' : List Value, cs'.length = c * 7 ∧ w'.heap[h]? = some (.cells cs'.toArray 40 (0, 0)) ∧ (∀ j us, ((kept p xs rows xs.length).map (·.2))[j]? = some us → rowOf 7 cs' j = us) ∧ Aft (fun k => k = h) w0 w' := by
  let Rr : Ending → World → Prop := fun e w' => e = .returned (.slice (some ⟨h, 0, none⟩) (kept p xs rows xs.length).length c) ∧ ∃ cs' : List Value, cs'.length = c * 7 ∧ w'.heap[h]? = some (.cells cs'.toArray 40 (0, 0)) ∧ (∀ j us, ((kept p xs rows xs.length).map (·.2))[j]? = some us → rowOf 7 cs' j = us) ∧ Aft (fun k => k = h) w0 w'
  let pK : World → Prop := fun W => ∀ (j : Nat) x us, xs[j]? = some x → rows[j]? = some us → k40.K W x us
  let pC : World → Prop := fun W => ∀ x, x ∈ xs → ∀ us, k40.K W x us → Calls Try.prog g (#[.agg us.toArray] ++ lb) W fun e W' => e = .returned (.bool (p x)) ∧ Below W.heap.size W W'
  have hmx : c ≤ 9223372036854775807 := hcx
  refine enterS (S := fun k => k = h) (args := [.slice (some ⟨h, 0, none⟩) xs.length c, .func (.func g) #[] lb]) [.box h 40 cs] [pK, pC] (Own.single ⟨hh, fun k => Iff.rfl⟩) (fun q hq => by
    rcases List.mem_cons.1 hq with rfl | hq
    · exact fun W hW => hK W hW
    · rw [List.mem_singleton.1 hq]; exact fun W hW => hC W hW) Try.func76 rfl rfl ?_
  have index_ : ∀ w, WS ⟨w0, fun k => k = h⟩ w [.box h 40 cs] [pK, pC] → Calls Try.prog 95 [.slice (some ⟨h, 0, none⟩) xs.length c, .func (.func g) #[] lb].toArray w fun e w' => e = .returned (.int .i64 (idx p xs)) ∧ Below w.heap.size w w' := fun w hW => by
    have hg := Box_at hW (List.mem_cons_self)
    have hR := box_raw (b := 0) (ok := fun _ => True) hg hcl (Nat.zero_le _) hl hnc hcx trivial hr
    have hCr := C_of_rows (dk := k40) ((Kd.R_reads' hR).2.2) hl (hW.at 0 rfl)
    rw [hl] at hCr
    exact idx_95 g lb eg.out p _ c xs w hCr (fun x hx W us hb hk => (hW.call hb).at 1 rfl x hx us hk)
  show Cj Try.prog _ _ _ (bodyPost Try.prog Try.f76 Rr) _ _ _
  rcases idx_cases p xs with ⟨e1, e2⟩ | ⟨i0, x0, hx0, e1, e2, e3⟩
  · rw [e1] at index_
    repeat (first
    | (apply gateO; first
      | refine Jl.yd (Y.mv rfl rfl) rfl rfl rfl ?_
      | refine Jl.yd (Y.asg rfl rfl) rfl rfl rfl ?_
      | refine Jl.yd (Y.ext rfl rfl rfl) rfl rfl rfl ?_
      | refine Jl.yd (Y.pickT rfl rfl rfl) rfl rfl rfl ?_
      | refine Jl.yd (Y.pickF rfl rfl rfl) rfl rfl rfl ?_
      | refine Jl.off rfl rfl rfl ?_
      | refine Jl.yd (Y.cmpF rfl rfl rfl rfl (by omega)) rfl rfl rfl ?_
      | refine Jl.yd (Y.cmpT rfl rfl rfl rfl (by omega)) rfl rfl rfl ?_
      | refine Jl.yd (Y.neqB rfl rfl rfl Try.underlying4) rfl rfl rfl ?_
      | refine Jl.yd (Y.cmp rfl rfl rfl rfl) rfl rfl rfl ?_
      | refine Jl.yd (Y.not rfl rfl) rfl rfl rfl ?_
      | refine Jl.yd (Y.arithN rfl rfl rfl rfl (by omega)) rfl rfl rfl ?_
      | refine Jl.yd (Y.arith64 rfl rfl rfl rfl) rfl rfl rfl ?_
      | refine Jl.yd (Y.lenS Try.underlying46 rfl rfl rfl) rfl rfl rfl ?_
      | refine Jl.call1 (v := .int .i64 (-1)) rfl rfl rfl rfl en95 rfl (fun w hW => index_ w hW) ?_
      | refine Jl.splitG rfl rfl (fun h => ?_) (fun h => ?_))
    | (apply gateE; first
      | refine Jl.nil (Ej.go ?_ (fun _ _ h => h))
      | (refine Jl.nil (Ej.back (fun _ _ h => h) (by repeat (first | exact .refl | apply DropTo.tail)) ?_); repeat (first | exact trivial | refine ⟨rfl, ?_⟩)))
    | (apply gateC; first
      | refine Cj.ret rfl (Ej.out1 (P := Try.prog) (fn := Try.f76) (R := Rr) (fun _ _ h => h) rfl rfl (fun w' hW => ?_))
      | refine Cj.condF rfl rfl (Cj.skip rfl (Ej.go ?_ (fun _ _ h => h)))
      | (refine Cj.condF rfl rfl (Cj.skip rfl (Ej.back (fun _ _ h => h) (by repeat (first | exact .refl | apply DropTo.tail)) ?_)); repeat (first | exact trivial | refine ⟨rfl, ?_⟩))
      | refine Cj.condF rfl rfl ?_
      | refine Cj.condT rfl rfl ?_
      | refine Cj.exit rfl (Ej.go ?_ (fun _ _ h => h))
      | refine Cj.cond rfl rfl (fun h => ?_) (fun h => ?_)
      | refine Cj.skip rfl (Ej.go ?_ (fun _ _ h => h))
      | (refine Cj.skip rfl (Ej.back (fun _ _ h => h) (by repeat (first | exact .refl | apply DropTo.tail)) ?_); repeat (first | exact trivial | refine ⟨rfl, ?_⟩))
      | refine Cj.seq rfl ?_
      | refine Cj.region rfl ?_))
    have hka := kept_all (rows := rows) e2 xs.length
    have hzl : (xs.zip rows).length = xs.length := by rw [List.length_zip]; omega
    have hkl : (kept p xs rows xs.length).length = xs.length := by rw [hka, List.length_take, hzl]; omega
    refine ⟨by rw [hkl], cs, hcl, Box_at hW (List.mem_cons_self), fun j us hj => ?_, hW.aft⟩
    rw [hka, List.take_of_length_le (by omega), List.map_snd_zip (by omega)] at hj
    exact (hr j us hj).1
  · rw [e1] at index_
    have hi0 : i0 < xs.length := (List.getElem?_eq_some_iff.1 hx0).1
    repeat (first
    | (apply gateO; first
      | refine Jl.yd (Y.mv rfl rfl) rfl rfl rfl ?_
      | refine Jl.yd (Y.asg rfl rfl) rfl rfl rfl ?_
      | refine Jl.yd (Y.ext rfl rfl rfl) rfl rfl rfl ?_
      | refine Jl.yd (Y.pickT rfl rfl rfl) rfl rfl rfl ?_
      | refine Jl.yd (Y.pickF rfl rfl rfl) rfl rfl rfl ?_
      | refine Jl.off rfl rfl rfl ?_
      | refine Jl.yd (Y.cmpF rfl rfl rfl rfl (by omega)) rfl rfl rfl ?_
      | refine Jl.yd (Y.cmpT rfl rfl rfl rfl (by omega)) rfl rfl rfl ?_
      | refine Jl.yd (Y.neqB rfl rfl rfl Try.underlying4) rfl rfl rfl ?_
      | refine Jl.yd (Y.cmp rfl rfl rfl rfl) rfl rfl rfl ?_
      | refine Jl.yd (Y.not rfl rfl) rfl rfl rfl ?_
      | refine Jl.yd (Y.arithN rfl rfl rfl rfl (by omega)) rfl rfl rfl ?_
      | refine Jl.yd (Y.arith64 rfl rfl rfl rfl) rfl rfl rfl ?_
      | refine Jl.yd (Y.lenS Try.underlying46 rfl rfl rfl) rfl rfl rfl ?_
      | refine Jl.call1 (v := .int .i64 (i0 : Int)) rfl rfl rfl rfl en95 rfl (fun w hW => index_ w hW) ?_
      | refine Jl.splitG rfl rfl (fun h => ?_) (fun h => ?_))
    | (apply gateE; first
      | refine Jl.nil (Ej.go ?_ (fun _ _ h => h))
      | (refine Jl.nil (Ej.back (fun _ _ h => h) (by repeat (first | exact .refl | apply DropTo.tail)) ?_); repeat (first | exact trivial | refine ⟨rfl, ?_⟩)))
    | (apply gateC; first
      | refine Cj.ret rfl (Ej.out1 (P := Try.prog) (fn := Try.f76) (R := Rr) (fun _ _ h => h) rfl rfl (fun w' hW => ?_))
      | refine Cj.condF rfl rfl (Cj.skip rfl (Ej.go ?_ (fun _ _ h => h)))
      | (refine Cj.condF rfl rfl (Cj.skip rfl (Ej.back (fun _ _ h => h) (by repeat (first | exact .refl | apply DropTo.tail)) ?_)); repeat (first | exact trivial | refine ⟨rfl, ?_⟩))
      | refine Cj.condF rfl rfl ?_
      | refine Cj.condT rfl rfl ?_
      | refine Cj.exit rfl (Ej.go ?_ (fun _ _ h => h))
      | refine Cj.cond rfl rfl (fun h => ?_) (fun h => ?_)
      | refine Cj.skip rfl (Ej.go ?_ (fun _ _ h => h))
      | (refine Cj.skip rfl (Ej.back (fun _ _ h => h) (by repeat (first | exact .refl | apply DropTo.tail)) ?_); repeat (first | exact trivial | refine ⟨rfl, ?_⟩))
      | refine Cj.seq rfl ?_
      | refine Cj.region rfl ?_))
    refine Cj.block rfl ?_
    refine Cj.loop (ι := (Nat × Nat) × List Value) (fun q => q.1.1 = (kept p xs rows q.1.2).length ∧ q.1.1 < q.1.2 ∧ q.1.2 ≤ xs.length ∧ q.2.length = cs.length ∧ (∀ t us, ((kept p xs rows q.1.2).map (·.2))[t]? = some us → rowOf 7 q.2 t = us) ∧ (∀ t, q.1.2 ≤ t → t < xs.length → rowOf 7 q.2 t = rowOf 7 cs t))
      (fun q => [(0, .slice (some ⟨h, 0, none⟩) xs.length c), (1, .func (.func g) #[] lb), (5, .int .i64 (q.1.1 : Int)), (6, .int .i64 (q.1.2 : Int))]) (fun q => [.box h 40 q.2]) (fun _ => [pK, pC]) (fun q => xs.length - q.1.2) rfl ((i0, i0 + 1), cs) ?start ⟨rfl, rfl, rfl, ?_, trivial⟩ rfl (fun p hp => hp) (fun q hq => ?_)
    case start =>
      have hk0 : kept p xs rows (i0 + 1) = (xs.zip rows).take i0 := by
        rw [kept_succ hx0 (List.getElem?_eq_getElem (by omega)), if_pos e2, List.append_nil]
        unfold kept
        rw [List.filter_eq_self]
        intro q hq
        obtain ⟨t, ht, rfl⟩ := List.mem_iff_getElem.1 hq
        rw [List.length_take, List.length_zip] at ht
        have := e3 (xs[t]'(by omega)) (List.mem_iff_getElem.2 ⟨t, by rw [List.length_take]; omega, List.getElem_take⟩)
        rw [List.getElem_take, List.getElem_zip]
        simp [this]
      refine ⟨?_, by dsimp only; omega, by dsimp only; omega, rfl, fun t us ht => ?_, fun t _ _ => rfl⟩
      · dsimp only
        rw [hk0, List.length_take, List.length_zip]; omega
      · dsimp only at ht ⊢
        rw [hk0, List.map_take, List.map_snd_zip (by omega), List.getElem?_take] at ht
        split at ht
        · exact (hr t us ht).1
        · cases ht
    · show some (Value.int .i64 ((i0 : Int) + 1)) = some (.int .i64 ((i0 + 1 : Nat) : Int))
      rfl
    obtain ⟨⟨i, j⟩, cs'⟩ := q
    obtain ⟨h1, h2, h3, h4, h5, h6⟩ := hq
    dsimp only at h1 h2 h3 h4 h5 h6 ⊢
    by_cases hlt : j < xs.length
    · obtain ⟨x, hxj⟩ : ∃ x, xs[j]? = some x := ⟨_, List.getElem?_eq_getElem hlt⟩
      obtain ⟨u, huj⟩ : ∃ u, rows[j]? = some u := ⟨_, List.getElem?_eq_getElem (by omega)⟩
      obtain ⟨hru, hul, huo⟩ := hr j u huj
      have hrow : rowOf 7 cs' j = u := (h6 j (Nat.le_refl _) hlt).trans hru
      have hub : Nat.beq u.length 7 = true := by rw [hul]; rfl
      have hoff : ((i : Int)).toNat * 7 + u.length ≤ cs'.length := by rw [Int.toNat_natCast]; omega
      have hks := kept_succ (p := p) hxj huj
      cases hp : p x with
      | true =>
        rw [if_pos hp, List.append_nil] at hks
        have close_ : ∀ w its, WS ⟨w0, fun k => k = h⟩ w its [pK, pC] → Calls Try.prog g (#[] ++ [.agg u.toArray].toArray ++ lb) w fun e w' => e = .returned (.bool true) ∧ Below w.heap.size w w' := fun w its hW => by
          have := hW.at 1 rfl x (List.mem_of_getElem? hxj) u (hW.at 0 rfl j x u hxj huj)
          rw [hp] at this
          rw [Array.empty_append]
          exact this
        repeat (first
    | (apply gateO; first
      | refine Jl.yd (Y.mv rfl rfl) rfl rfl rfl ?_
      | refine Jl.yd (Y.asg rfl rfl) rfl rfl rfl ?_
      | refine Jl.yd (Y.ext rfl rfl rfl) rfl rfl rfl ?_
      | refine Jl.yd (Y.pickT rfl rfl rfl) rfl rfl rfl ?_
      | refine Jl.yd (Y.pickF rfl rfl rfl) rfl rfl rfl ?_
      | refine Jl.off rfl rfl rfl ?_
      | refine Jl.yd (Y.cmpF rfl rfl rfl rfl (by omega)) rfl rfl rfl ?_
      | refine Jl.yd (Y.cmpT rfl rfl rfl rfl (by omega)) rfl rfl rfl ?_
      | refine Jl.yd (Y.neqB rfl rfl rfl Try.underlying4) rfl rfl rfl ?_
      | refine Jl.yd (Y.cmp rfl rfl rfl rfl) rfl rfl rfl ?_
      | refine Jl.yd (Y.not rfl rfl) rfl rfl rfl ?_
      | refine Jl.yd (Y.arithN rfl rfl rfl rfl (by omega)) rfl rfl rfl ?_
      | refine Jl.yd (Y.arith64 rfl rfl rfl rfl) rfl rfl rfl ?_
      | refine Jl.alloc rfl rfl rfl rfl zero40 (fun g => ?_)
      | refine Jl.yd (Y.lenS Try.underlying46 rfl rfl rfl) rfl rfl rfl ?_
      | refine Jl.yd (Y.idx0 rfl rfl rfl el46 (by omega) (by omega)) rfl rfl rfl ?_
      | refine Jl.yd (Y.loadE (u := u) rfl rfl agg40 (by repeat (first | exact .head _ | refine .tail _ ?_)) hrow hul) rfl rfl rfl ?_
      | refine Jl.yd (Y.loadA rfl rfl agg40 (by repeat (first | exact .head _ | refine .tail _ ?_)) hub) rfl rfl rfl ?_
      | refine Jl.storeW (us := u) rfl rfl rfl rfl rfl sz40 (by repeat (first | exact .z | apply SetAt.s)) hul (by rfl) huo ?_
      | refine Jl.storeB (us := u) rfl rfl rfl rfl rfl sz40 (by repeat (first | exact .z | apply SetAt.s)) hul hoff huo ?_
      | refine Jl.callc (v := .bool true) rfl rfl rfl rfl rfl eg rfl (fun w hW => close_ w _ hW) ?_
      | refine Jl.splitG rfl rfl (fun h => ?_) (fun h => ?_))
    | (apply gateE; first
      | refine Jl.nil (Ej.go ?_ (fun _ _ h => h))
      | (refine Jl.nil (Ej.back (fun _ _ h => h) (by repeat (first | exact .refl | apply DropTo.tail)) ?_); repeat (first | exact trivial | refine ⟨rfl, ?_⟩)))
    | (apply gateC; first
      | refine Cj.block rfl ?_
      | refine Cj.condF rfl rfl (Cj.skip rfl (Ej.go ?_ (fun _ _ h => h)))
      | (refine Cj.condF rfl rfl (Cj.skip rfl (Ej.back (fun _ _ h => h) (by repeat (first | exact .refl | apply DropTo.tail)) ?_)); repeat (first | exact trivial | refine ⟨rfl, ?_⟩))
      | refine Cj.condF rfl rfl ?_
      | refine Cj.condT rfl rfl ?_
      | refine Cj.exit rfl (Ej.go ?_ (fun _ _ h => h))
      | refine Cj.cond rfl rfl (fun h => ?_) (fun h => ?_)
      | refine Cj.skip rfl (Ej.go ?_ (fun _ _ h => h))
      | (refine Cj.skip rfl (Ej.back (fun _ _ h => h) (by repeat (first | exact .refl | apply DropTo.tail)) ?_); repeat (first | exact trivial | refine ⟨rfl, ?_⟩))
      | refine Cj.seq rfl ?_
      | refine Cj.region rfl ?_))
        refine Jl.nil (Ej.ws (ι := Unit) (fun _ => True) (fun _ => [.box h 40 cs']) (fun _ => [pK, pC]) (fun w hW => ⟨(), trivial, hW.drop (n := 0) rfl⟩) (fun _ _ => ?_))
        refine Ej.cut (ι := (Nat × Nat) × List Value) _ _ _ _ (fun _ _ h => h) ((i, j + 1), cs') ⟨?_, by dsimp only; omega⟩ ⟨rfl, rfl, rfl, rfl, trivial⟩ rfl (fun p hp => hp)
        dsimp only
        rw [hks]
        exact ⟨h1, by omega, by omega, h4, h5, fun t g1 g2 => h6 t (by omega) g2⟩
      | false =>
        rw [if_neg (by rw [hp]; simp)] at hks
        have close_ : ∀ w its, WS ⟨w0, fun k => k = h⟩ w its [pK, pC] → Calls Try.prog g (#[] ++ [.agg u.toArray].toArray ++ lb) w fun e w' => e = .returned (.bool false) ∧ Below w.heap.size w w' := fun w its hW => by
          have := hW.at 1 rfl x (List.mem_of_getElem? hxj) u (hW.at 0 rfl j x u hxj huj)
          rw [hp] at this
          rw [Array.empty_append]
          exact this
        repeat (first
    | (apply gateO; first
      | refine Jl.yd (Y.mv rfl rfl) rfl rfl rfl ?_
      | refine Jl.yd (Y.asg rfl rfl) rfl rfl rfl ?_
      | refine Jl.yd (Y.ext rfl rfl rfl) rfl rfl rfl ?_
      | refine Jl.yd (Y.pickT rfl rfl rfl) rfl rfl rfl ?_
      | refine Jl.yd (Y.pickF rfl rfl rfl) rfl rfl rfl ?_
      | refine Jl.off rfl rfl rfl ?_
      | refine Jl.yd (Y.cmpF rfl rfl rfl rfl (by omega)) rfl rfl rfl ?_
      | refine Jl.yd (Y.cmpT rfl rfl rfl rfl (by omega)) rfl rfl rfl ?_
      | refine Jl.yd (Y.neqB rfl rfl rfl Try.underlying4) rfl rfl rfl ?_
      | refine Jl.yd (Y.cmp rfl rfl rfl rfl) rfl rfl rfl ?_
      | refine Jl.yd (Y.not rfl rfl) rfl rfl rfl ?_
      | refine Jl.yd (Y.arithN rfl rfl rfl rfl (by omega)) rfl rfl rfl ?_
      | refine Jl.yd (Y.arith64 rfl rfl rfl rfl) rfl rfl rfl ?_
      | refine Jl.alloc rfl rfl rfl rfl zero40 (fun g => ?_)
      | refine Jl.yd (Y.lenS Try.underlying46 rfl rfl rfl) rfl rfl rfl ?_
      | refine Jl.yd (Y.idx0 rfl rfl rfl el46 (by omega) (by omega)) rfl rfl rfl ?_
      | refine Jl.yd (Y.loadE (u := u) rfl rfl agg40 (by repeat (first | exact .head _ | refine .tail _ ?_)) hrow hul) rfl rfl rfl ?_
      | refine Jl.yd (Y.loadA rfl rfl agg40 (by repeat (first | exact .head _ | refine .tail _ ?_)) hub) rfl rfl rfl ?_
      | refine Jl.storeW (us := u) rfl rfl rfl rfl rfl sz40 (by repeat (first | exact .z | apply SetAt.s)) hul (by rfl) huo ?_
      | refine Jl.storeB (us := u) rfl rfl rfl rfl rfl sz40 (by repeat (first | exact .z | apply SetAt.s)) hul hoff huo ?_
      | refine Jl.callc (v := .bool false) rfl rfl rfl rfl rfl eg rfl (fun w hW => close_ w _ hW) ?_
      | refine Jl.splitG rfl rfl (fun h => ?_) (fun h => ?_))
    | (apply gateE; first
      | refine Jl.nil (Ej.go ?_ (fun _ _ h => h))
      | (refine Jl.nil (Ej.back (fun _ _ h => h) (by repeat (first | exact .refl | apply DropTo.tail)) ?_); repeat (first | exact trivial | refine ⟨rfl, ?_⟩)))
    | (apply gateC; first
      | refine Cj.block rfl ?_
      | refine Cj.condF rfl rfl (Cj.skip rfl (Ej.go ?_ (fun _ _ h => h)))
      | (refine Cj.condF rfl rfl (Cj.skip rfl (Ej.back (fun _ _ h => h) (by repeat (first | exact .refl | apply DropTo.tail)) ?_)); repeat (first | exact trivial | refine ⟨rfl, ?_⟩))
      | refine Cj.condF rfl rfl ?_
      | refine Cj.condT rfl rfl ?_
      | refine Cj.exit rfl (Ej.go ?_ (fun _ _ h => h))
      | refine Cj.cond rfl rfl (fun h => ?_) (fun h => ?_)
      | refine Cj.skip rfl (Ej.go ?_ (fun _ _ h => h))
      | (refine Cj.skip rfl (Ej.back (fun _ _ h => h) (by repeat (first | exact .refl | apply DropTo.tail)) ?_); repeat (first | exact trivial | refine ⟨rfl, ?_⟩))
      | refine Cj.seq rfl ?_
      | refine Cj.region rfl ?_))
        refine Jl.nil (Ej.ws (ι := Unit) (fun _ => True) (fun _ => [.box h 40 (wr cs' ((i : Int).toNat * 7) u)]) (fun _ => [pK, pC]) (fun w hW => ⟨(), trivial, hW.drop (n := 0) rfl⟩) (fun _ _ => ?_))
        refine Ej.cut (ι := (Nat × Nat) × List Value) _ _ _ _ (fun _ _ h => h) ((i + 1, j + 1), (wr cs' ((i : Int).toNat * 7) u)) ⟨?_, by dsimp only; omega⟩ ⟨rfl, rfl, rfl, rfl, trivial⟩ rfl (fun p hp => hp)
        dsimp only
        rw [Int.toNat_natCast] at hoff ⊢
        rw [hks]
        refine ⟨by rw [List.length_append, ← h1]; rfl, by omega, by omega, by rw [wr_length hoff]; exact h4, fun t us ht => ?_, fun t g1 g2 => ?_⟩
        · rw [List.map_append] at ht
          rcases Nat.lt_trichotomy t i with ht' | ht' | ht'
          · rw [List.getElem?_append_left (by rw [List.length_map, ← h1]; exact ht')] at ht
            rw [rowOf_wr_lt hoff ht']
            exact h5 t us ht
          · subst ht'
            rw [List.getElem?_append_right (by rw [List.length_map, ← h1]; exact Nat.le_refl _), List.length_map, ← h1, Nat.sub_self] at ht
            obtain rfl : u = us := by simpa using ht
            exact rowOf_wr_eq hul (by omega)
          · rw [List.getElem?_eq_none (by rw [List.length_append, List.length_map, ← h1]; simp; omega)] at ht
            cases ht
        · rw [rowOf_wr_gt hoff (by omega) (by omega)]
          exact h6 t (by omega) g2
    · obtain rfl : j = xs.length := by omega
      have hclr : ((i : Int)).toNat * 7 + (xs.length - ((i : Int)).toNat) * 7 ≤ cs'.length := by rw [Int.toNat_natCast]; omega
      repeat (first
    | (apply gateO; first
      | refine Jl.yd (Y.mv rfl rfl) rfl rfl rfl ?_
      | refine Jl.yd (Y.asg rfl rfl) rfl rfl rfl ?_
      | refine Jl.yd (Y.ext rfl rfl rfl) rfl rfl rfl ?_
      | refine Jl.yd (Y.pickT rfl rfl rfl) rfl rfl rfl ?_
      | refine Jl.yd (Y.pickF rfl rfl rfl) rfl rfl rfl ?_
      | refine Jl.off rfl rfl rfl ?_
      | refine Jl.yd (Y.cmpF rfl rfl rfl rfl (by omega)) rfl rfl rfl ?_
      | refine Jl.yd (Y.cmpT rfl rfl rfl rfl (by omega)) rfl rfl rfl ?_
      | refine Jl.yd (Y.neqB rfl rfl rfl Try.underlying4) rfl rfl rfl ?_
      | refine Jl.yd (Y.cmp rfl rfl rfl rfl) rfl rfl rfl ?_
      | refine Jl.yd (Y.not rfl rfl) rfl rfl rfl ?_
      | refine Jl.yd (Y.arithN rfl rfl rfl rfl (by omega)) rfl rfl rfl ?_
      | refine Jl.yd (Y.arith64 rfl rfl rfl rfl) rfl rfl rfl ?_
      | refine Jl.yd (Y.lenS Try.underlying46 rfl rfl rfl) rfl rfl rfl ?_
      | refine Jl.yd (Y.idx0 rfl rfl rfl el46 (by omega) (by omega)) rfl rfl rfl ?_
      | refine Jl.yd (Y.sliceL rfl rfl rfl el46 (by omega) (by omega) (by omega)) rfl rfl rfl ?_
      | refine Jl.yd (Y.sliceH rfl rfl rfl el46 (by omega) (by omega)) rfl rfl rfl ?_
      | refine Jl.clearB rfl rfl rfl rfl rfl el46 zero40 (by rfl) (by rfl) (by repeat (first | exact .head _ | refine .tail _ ?_)) hclr (by omega) (fun cs' => (by repeat (first | exact .z | apply SetAt.s))) (fun cs2 hl2 hp2 => ?_)
      | refine Jl.splitG rfl rfl (fun h => ?_) (fun h => ?_))
    | (apply gateE; first
      | refine Jl.nil (Ej.go ?_ (fun _ _ h => h))
      | (refine Jl.nil (Ej.back (fun _ _ h => h) (by repeat (first | exact .refl | apply DropTo.tail)) ?_); repeat (first | exact trivial | refine ⟨rfl, ?_⟩)))
    | (apply gateC; first
      | refine Cj.ret rfl (Ej.out1 (P := Try.prog) (fn := Try.f76) (R := Rr) (fun _ _ h => h) rfl rfl (fun w' hW => ?_))
      | refine Cj.condF rfl rfl (Cj.skip rfl (Ej.go ?_ (fun _ _ h => h)))
      | (refine Cj.condF rfl rfl (Cj.skip rfl (Ej.back (fun _ _ h => h) (by repeat (first | exact .refl | apply DropTo.tail)) ?_)); repeat (first | exact trivial | refine ⟨rfl, ?_⟩))
      | refine Cj.condF rfl rfl ?_
      | refine Cj.condT rfl rfl ?_
      | refine Cj.exit rfl (Ej.go ?_ (fun _ _ h => h))
      | refine Cj.cond rfl rfl (fun h => ?_) (fun h => ?_)
      | refine Cj.skip rfl (Ej.go ?_ (fun _ _ h => h))
      | (refine Cj.skip rfl (Ej.back (fun _ _ h => h) (by repeat (first | exact .refl | apply DropTo.tail)) ?_); repeat (first | exact trivial | refine ⟨rfl, ?_⟩))
      | refine Cj.seq rfl ?_
      | refine Cj.region rfl ?_))
      have hki := kept_len p xs rows xs.length
      refine ⟨by rw [Int.toNat_natCast, h1], cs2, by omega, Box_at hW (List.mem_cons_self), fun t us ht => ?_, hW.aft⟩
      have htl : t < i := by have := (List.getElem?_eq_some_iff.1 ht).1; rw [List.length_map] at this; omega
      rw [← h5 t us ht]
      refine rowOf_ext fun k hk => hp2 _ ?_
      have := mul_lt_step (sz := 7) htl
      rw [Int.toNat_natCast]
      omega
set_option maxHeartbeats 1000000 in
theorem run0 (g : Nat) (lb : Array Value) (eg : Ent Try.prog g) (p : S40 → Bool) (w0 : World) (c : Nat) : Calls Try.prog 76 #[.slice none 0 c, .func (.func g) #[] lb] w0 fun e w' => e = .returned (.slice none 0 c) ∧ Below w0.heap.size w0 w' := by
  let Rr : Ending → World → Prop := fun e w' => e = .returned (.slice none 0 c) ∧ Below w0.heap.size w0 w'
  have index_ : ∀ w, WS (base w0) w [] [] → Calls Try.prog 95 [.slice none 0 c, .func (.func g) #[] lb].toArray w fun e w' => e = .returned (.int .i64 (-1)) ∧ Below w.heap.size w w' := fun w hW =>
    idx_95 g lb eg.out p none c [] w ⟨rfl, Nat.zero_le _, fun h => absurd h (Nat.lt_irrefl _)⟩ (fun x hx => by cases hx)
  refine enterW (args := [.slice none 0 c, .func (.func g) #[] lb]) [] (fun q hq => by cases hq) Try.func76 rfl rfl ?_
  show Cj Try.prog _ _ _ (bodyPost Try.prog Try.f76 Rr) _ _ _
  repeat (first
    | (apply gateO; first
      | refine Jl.yd (Y.mv rfl rfl) rfl rfl rfl ?_
      | refine Jl.yd (Y.asg rfl rfl) rfl rfl rfl ?_
      | refine Jl.yd (Y.ext rfl rfl rfl) rfl rfl rfl ?_
      | refine Jl.yd (Y.pickT rfl rfl rfl) rfl rfl rfl ?_
      | refine Jl.yd (Y.pickF rfl rfl rfl) rfl rfl rfl ?_
      | refine Jl.off rfl rfl rfl ?_
      | refine Jl.yd (Y.cmpF rfl rfl rfl rfl (by omega)) rfl rfl rfl ?_
      | refine Jl.yd (Y.cmpT rfl rfl rfl rfl (by omega)) rfl rfl rfl ?_
      | refine Jl.yd (Y.neqB rfl rfl rfl Try.underlying4) rfl rfl rfl ?_
      | refine Jl.yd (Y.cmp rfl rfl rfl rfl) rfl rfl rfl ?_
      | refine Jl.yd (Y.not rfl rfl) rfl rfl rfl ?_
      | refine Jl.yd (Y.arithN rfl rfl rfl rfl (by omega)) rfl rfl rfl ?_
      | refine Jl.yd (Y.arith64 rfl rfl rfl rfl) rfl rfl rfl ?_
      | refine Jl.yd (Y.lenS Try.underlying46 rfl rfl rfl) rfl rfl rfl ?_
      | refine Jl.call1 (v := .int .i64 (-1)) rfl rfl rfl rfl en95 rfl (fun w hW => index_ w hW) ?_
      | refine Jl.splitG rfl rfl (fun h => ?_) (fun h => ?_))
    | (apply gateE; first
      | refine Jl.nil (Ej.go ?_ (fun _ _ h => h))
      | (refine Jl.nil (Ej.back (fun _ _ h => h) (by repeat (first | exact .refl | apply DropTo.tail)) ?_); repeat (first | exact trivial | refine ⟨rfl, ?_⟩)))
    | (apply gateC; first
      | refine Cj.ret rfl (Ej.out1 (P := Try.prog) (fn := Try.f76) (R := Rr) (fun _ _ h => h) rfl rfl (fun w' hW => ?_))
      | refine Cj.condF rfl rfl (Cj.skip rfl (Ej.go ?_ (fun _ _ h => h)))
      | (refine Cj.condF rfl rfl (Cj.skip rfl (Ej.back (fun _ _ h => h) (by repeat (first | exact .refl | apply DropTo.tail)) ?_)); repeat (first | exact trivial | refine ⟨rfl, ?_⟩))
      | refine Cj.condF rfl rfl ?_
      | refine Cj.condT rfl rfl ?_
      | refine Cj.exit rfl (Ej.go ?_ (fun _ _ h => h))
      | refine Cj.cond rfl rfl (fun h => ?_) (fun h => ?_)
      | refine Cj.skip rfl (Ej.go ?_ (fun _ _ h => h))
      | (refine Cj.skip rfl (Ej.back (fun _ _ h => h) (by repeat (first | exact .refl | apply DropTo.tail)) ?_); repeat (first | exact trivial | refine ⟨rfl, ?_⟩))
      | refine Cj.seq rfl ?_
      | refine Cj.region rfl ?_))
  exact ⟨rfl, hW.below⟩
/-- slices.DeleteFunc at a row of one's own: what stays is at its head. -/
theorem calls (g : Nat) (lb : Array Value) (eg : Ent Try.prog g) (p : S40 → Bool) (w : World) (A : Nat → Prop) (v : Value) (rows : List (List Value)) (xs : List S40) (hl : rows.length = xs.length)
    (hA : (Item.row (Kd.raw 7) 40 0 v rows).p w A)
    (hK : ∀ W, Aft A w W → ∀ (j : Nat) x us, xs[j]? = some x → rows[j]? = some us → k40.K W x us)
    (hC : ∀ W, Aft A w W → ∀ x, x ∈ xs → ∀ us, k40.K W x us → Calls Try.prog g (#[.agg us.toArray] ++ lb) W fun e W' => e = .returned (.bool (p x)) ∧ Below W.heap.size W W') :
    Calls Try.prog 76 #[v, .func (.func g) #[] lb] w fun e w' => ∃ v', e = .returned v' ∧ (∀ k, v'.ownBlock = some k → v.ownBlock = some k) ∧ ∃ A', (Item.row (Kd.raw 7) 40 0 v' ((kept p xs rows xs.length).map (·.2))).p w' A' ∧ (∀ k, A' k → k < w.heap.size → A k) ∧ Aft A w w' := by
  rcases row_form hA.1 with ⟨c, rfl, rfl⟩ | ⟨h, c, rfl⟩
  · refine (run0 g lb eg p w c).mono ?_
    rintro e w' ⟨rfl, hb⟩
    obtain rfl : xs = [] := List.eq_nil_of_length_eq_zero (by rw [← hl]; rfl)
    exact ⟨_, rfl, fun k hk => hk, A, Item.loc _ hA hb.size (fun k hk => hb.block k (hA.2 k hk)), fun k hk _ => hk, Aft.of_below A hb⟩
  · obtain ⟨cs, hh, hcl, _, hn, hnc, hcx, hr⟩ := raw_box hA.1
    have hAh : A h := hA.1.1 h (by simp [Value.ownBlock])
    have wk : ∀ W, Aft (fun k => k = h) w W → Aft A w W := fun W ha => ⟨ha.os, ha.tape, ha.output, ha.size, fun k hk hn => ha.block k hk (fun e => hn (e ▸ hAh))⟩
    have := run g lb eg p w h c rows xs cs hh hcl hl (by omega) hcx hr (fun W hW => hK W (wk W hW)) (fun W hW => hC W (wk W hW))
    rw [hl]
    refine this.mono ?_
    rintro e w' ⟨rfl, cs', h1, h2, h3, h4⟩
    have hkl := kept_len p xs rows xs.length
    refine ⟨_, rfl, fun k hk => hk, fun k => k = h, ⟨box_raw h2 h1 (Nat.zero_le _) (by rw [List.length_map]) (by omega) hcx rfl (fun j us hj => ⟨h3 j us hj, ?_⟩), fun k hk => ?_⟩, fun k hk _ => hk ▸ hAh, wk w' h4⟩
    · obtain ⟨q, hq, rfl⟩ := List.mem_map.1 (List.mem_of_getElem? hj)
      unfold kept at hq
      have hm : q.2 ∈ rows := (List.of_mem_zip (List.mem_of_mem_take (List.mem_filter.1 hq).1)).2
      obtain ⟨t, ht, he⟩ := List.mem_iff_getElem.1 hm
      have := hr t q.2 (by rw [← he]; exact List.getElem?_eq_getElem ht)
      exact this.2
    · rw [hk]
      exact blk_lt h2
end Del76
end Go.Proofs.Ytembbdhhpblapaa.WK

namespace Go.Proofs.Ytembbdhhpblapaa.Q
open Go.RowKit Go.Proofs.YtembbdhhpblapaaW.PrintWords Go.Proofs.YtembbdhhpblapaaW.PrintLast Go.Proofs.YtembbdhhpblapaaW.PrintMore
attribute [local go_sem] max2_int min2_int max_two min_two max_three min_three max_four min_four
set_option linter.unusedVariables false
set_option linter.unusedSimpArgs false

/-! ### impl_EstimateBy_2: function 80 -/
def impl_EstimateBy_2.f (a0_0 : Int) (a0_1 : Int) (a0_2 : Int) (a0_3 : Int) (a0_4 : Int) (a0_5 : Bool) (a0_6 : Int) (a1_0 : Int) (a1_1 : Int) (a1_2 : Int) (a1_3 : Int) (a1_4 : Int) (a1_5 : Bool) (a1_6 : Int) : Option (Int) := (impl_Appraisal_base.f a1_1 a1_2 a1_3 a1_4 a1_5).bind fun t328 => ((impl_Appraisal_base.f a0_1 a0_2 a0_3 a0_4 a0_5).bind fun t329 => ((cmp_Compare_int.f (wrap64 (a0_6 * t328)) (wrap64 (a1_6 * t329))).bind fun t330 => (some t330)))
def impl_EstimateBy_2.T1 : Bool × List (List Nat × List Nat) := (true, [([], []), ([0], [0]), ([], []), ([2], [2]), ([3], [3]), ([1, 4], [1, 4]), ([], []), ([6], [6]), ([], []), ([8], [8]), ([9, 4], [9]), ([7, 10], [7, 10]), ([5, 11, 10], [5, 11]), ([12, 12, 0, 1, 2, 3, 4, 5, 6, 7, 8, 9, 10, 11, 12], [12])])
def impl_EstimateBy_2.B1 : List Nat := [0, 1, 0, 4, 12, 31, 0, 64, 0, 256, 796, 2012, 4095, 8191]
theorem impl_EstimateBy_2.tab1 : rtab .any (opsOf Try.f80 1) = impl_EstimateBy_2.T1 := by kernel_rfl
theorem impl_EstimateBy_2.bits1 : waitsOk impl_EstimateBy_2.T1.2 impl_EstimateBy_2.B1 = true := by kernel_rfl
set_option maxHeartbeats 8000000 in
set_option maxRecDepth 100000 in
theorem impl_EstimateBy_2.calls (a0_0 : Int) (a0_1 : Int) (a0_2 : Int) (a0_3 : Int) (a0_4 : Int) (a0_5 : Bool) (a0_6 : Int) (a1_0 : Int) (a1_1 : Int) (a1_2 : Int) (a1_3 : Int) (a1_4 : Int) (a1_5 : Bool) (a1_6 : Int) (r : Int) (w : World) (h : impl_EstimateBy_2.f a0_0 a0_1 a0_2 a0_3 a0_4 a0_5 a0_6 a1_0 a1_1 a1_2 a1_3 a1_4 a1_5 a1_6 = some r) :
  Calls Try.prog 80 #[.agg #[.int .i64 a0_0, .int .i64 a0_1, .int .i64 a0_2, .int .i64 a0_3, .int .i64 a0_4, .bool a0_5, .int .i64 a0_6], .agg #[.int .i64 a1_0, .int .i64 a1_1, .int .i64 a1_2, .int .i64 a1_3, .int .i64 a1_4, .bool a1_5, .int .i64 a1_6]] w fun e w' => e = .returned (.int .i64 r) ∧ Below w.heap.size w w' := by
 have hu40 := Try.underlying40
 have hu25 := Try.underlying25
 have HB := Aside0.mk (Below.refl w.heap.size w)
 have H : ((impl_Appraisal_base.f a1_1 a1_2 a1_3 a1_4 a1_5).bind fun t328 => ((impl_Appraisal_base.f a0_1 a0_2 a0_3 a0_4 a0_5).bind fun t329 => ((cmp_Compare_int.f (wrap64 (a0_6 * t328)) (wrap64 (a1_6 * t329))).bind fun t330 => (some t330)))) = some r := h
 clear h
 replace H := Option.bind_eq_some_iff.mp H
 obtain ⟨t328, A30, H⟩ := H
 have A3 := Aside0.mk A30
 clear A30
 replace H := Option.bind_eq_some_iff.mp H
 obtain ⟨t329, A40, H⟩ := H
 have A4 := Aside0.mk A40
 clear A40
 replace H := Option.bind_eq_some_iff.mp H
 obtain ⟨t330, A50, H⟩ := H
 have A5 := Aside0.mk A50
 clear A50
 obtain rfl := Option.some.inj H
 go_enter Try.func80, Try.ntmps80
 try go_wp2_with (first | ((with_reducible refine gate_dst (N := 2) rfl ?_); refine box_event ?hg (N := 2) ?hd (cs := #[.int .i64 a0_0, .int .i64 a0_1, .int .i64 a0_2, .int .i64 a0_3, .int .i64 a0_4, .bool a0_5, .int .i64 a0_6]) (t := 40) ?hr ?_; (case hd => rfl); (case hg => rfl); (case hr => first | (go_simp; done) | (go_simp; rfl)); intro gb326 hg w6 hbox hb; have n0_ := Aside0.mk (below_step (by repeat (first | (with_reducible first | exact HB.out | apply below_alloc | apply pw_below_drewN | apply below_drew1) | exact HB.out)) hb); have n1_ := Aside0.mk (hbox); have n2_ := Aside0.mk ((by rw [hg]; exact (below_size (by repeat (first | (with_reducible first | exact HB.out | apply below_alloc | apply pw_below_drewN | apply below_drew1) | exact HB.out))) : w.heap.size ≤ gb326)); have n3_ := Aside0.mk ((by rw [hg]; exact (below_size (by repeat (first | (with_reducible first | exact HB.out | apply below_alloc | apply pw_below_drewN | apply below_drew1) | exact HB.out))) : w.heap.size ≤ gb326)); clear HB; have HB := n0_; have BK326 := n1_; have GW326 := n2_; have GE326 := n3_; clear n0_ n1_ n2_ n3_; clear hb hbox hg) | ((with_reducible refine gate_dst (N := 3) rfl ?_); refine box_event ?hg (N := 3) ?hd (cs := #[.int .i64 a1_0, .int .i64 a1_1, .int .i64 a1_2, .int .i64 a1_3, .int .i64 a1_4, .bool a1_5, .int .i64 a1_6]) (t := 40) ?hr ?_; (case hd => rfl); (case hg => rfl); (case hr => first | (go_simp; done) | (go_simp; rfl)); intro gb327 hg w7 hbox hb; have n0_ := Aside0.mk (blk_below (g := gb326) (o := .cells #[.int .i64 a0_0, .int .i64 a0_1, .int .i64 a0_2, .int .i64 a0_3, .int .i64 a0_4, .bool a0_5, .int .i64 a0_6] 40 (0, 0)) (by (with_reducible repeat (first | refine blk_drewN ?_ _ | refine blk_drew ?_ | refine blk_alloc ?_ _)); exact BK326.out) hb); have n1_ := Aside0.mk (below_step (by repeat (first | (with_reducible first | exact HB.out | apply below_alloc | apply pw_below_drewN | apply below_drew1 | refine below_set ?_ GE326.out) | exact HB.out)) hb); have n2_ := Aside0.mk (hbox); have n3_ := Aside0.mk ((by rw [hg]; exact (below_size (by repeat (first | (with_reducible first | exact HB.out | apply below_alloc | apply pw_below_drewN | apply below_drew1 | refine below_set ?_ GE326.out) | exact HB.out))) : w.heap.size ≤ gb327)); have n4_ := Aside0.mk ((by rw [hg]; exact (below_size (by repeat (first | (with_reducible first | exact HB.out | apply below_alloc | apply pw_below_drewN | apply below_drew1 | refine below_set ?_ GE326.out) | exact HB.out))) : w.heap.size ≤ gb327)); have n5_ := Aside0.mk ((by rw [hg]; exact Nat.ne_of_lt (blk_lt (g := gb326) (o := .cells #[.int .i64 a0_0, .int .i64 a0_1, .int .i64 a0_2, .int .i64 a0_3, .int .i64 a0_4, .bool a0_5, .int .i64 a0_6] 40 (0, 0)) (by (with_reducible repeat (first | refine blk_drewN ?_ _ | refine blk_drew ?_ | refine blk_alloc ?_ _)); exact BK326.out)) : gb326 ≠ gb327)); have n6_ := Aside0.mk ((by rw [hg]; exact Nat.ne_of_gt (blk_lt (g := gb326) (o := .cells #[.int .i64 a0_0, .int .i64 a0_1, .int .i64 a0_2, .int .i64 a0_3, .int .i64 a0_4, .bool a0_5, .int .i64 a0_6] 40 (0, 0)) (by (with_reducible repeat (first | refine blk_drewN ?_ _ | refine blk_drew ?_ | refine blk_alloc ?_ _)); exact BK326.out)) : gb327 ≠ gb326)); clear BK326; clear HB; have BK326 := n0_; have HB := n1_; have BK327 := n2_; have GW327 := n3_; have GE327 := n4_; have NB326_327 := n5_; have NB327_326 := n6_; clear n0_ n1_ n2_ n3_ n4_ n5_ n6_; clear hb hbox hg))
 have n0_ := Aside0.mk (blk_drew BK326.out)
 have n1_ := Aside0.mk (blk_drew BK327.out)
 have n2_ := Aside0.mk (below_drew1 HB.out)
 clear BK326
 clear BK327
 clear HB
 have BK326 := n0_
 have BK327 := n1_
 have HB := n2_
 clear n0_ n1_ n2_
 refine start_ (n := 14) (S := fun w' => w'.cell? ⟨gb326, 0, none⟩ = some (.int .i64 a0_0) ∧ w'.cell? ⟨gb326, 1, none⟩ = some (.int .i64 a0_1) ∧ w'.cell? ⟨gb326, 2, none⟩ = some (.int .i64 a0_2) ∧ w'.cell? ⟨gb326, 3, none⟩ = some (.int .i64 a0_3) ∧ w'.cell? ⟨gb326, 4, none⟩ = some (.int .i64 a0_4) ∧ w'.cell? ⟨gb326, 5, none⟩ = some (.bool a0_5) ∧ w'.cell? ⟨gb326, 6, none⟩ = some (.int .i64 a0_6) ∧ w'.cell? ⟨gb327, 0, none⟩ = some (.int .i64 a1_0) ∧ w'.cell? ⟨gb327, 1, none⟩ = some (.int .i64 a1_1) ∧ w'.cell? ⟨gb327, 2, none⟩ = some (.int .i64 a1_2) ∧ w'.cell? ⟨gb327, 3, none⟩ = some (.int .i64 a1_3) ∧ w'.cell? ⟨gb327, 4, none⟩ = some (.int .i64 a1_4) ∧ w'.cell? ⟨gb327, 5, none⟩ = some (.bool a1_5) ∧ w'.cell? ⟨gb327, 6, none⟩ = some (.int .i64 a1_6)) (ds := []) #[false, false, false, false, false, false, false, false, false, false, false, false, false, false] (by kernel_rfl) rfl rfl ⟨(blk_cell BK326.out 0).trans rfl, (blk_cell BK326.out 1).trans rfl, (blk_cell BK326.out 2).trans rfl, (blk_cell BK326.out 3).trans rfl, (blk_cell BK326.out 4).trans rfl, (blk_cell BK326.out 5).trans rfl, (blk_cell BK326.out 6).trans rfl, (blk_cell BK327.out 0).trans rfl, (blk_cell BK327.out 1).trans rfl, (blk_cell BK327.out 2).trans rfl, (blk_cell BK327.out 3).trans rfl, (blk_cell BK327.out 4).trans rfl, (blk_cell BK327.out 5).trans rfl, (blk_cell BK327.out 6).trans rfl⟩ (fun hHeld => ?_); refine with_tabW impl_EstimateBy_2.tab1 impl_EstimateBy_2.bits1 (fun HT_ HW_ => ?_)
 generalize w7.drew = w8 at BK326 BK327 HB hHeld ⊢
 refine pure_ (i := 0) (N := some 5) (v := ?_) (a' := ?_) #[true, false, false, false, false, false, false, false, false, false, false, false, false, false] rfl rfl (any_of HT_.out (by kernel_rfl)) (fun _ _ _ h => h) (Or.inl ⟨by rfl, ?_⟩) ?_ ?_
 rotate_left
 ·intro w'
  go_simp
  with_reducible rfl
 rotate_left
 ·simp only [Act.put, sS_, sZ_, sC_, i64_w, i32_w]
  rfl
 refine pure_ (i := 2) (N := some 7) (v := ?_) (a' := ?_) #[true, false, true, false, false, false, false, false, false, false, false, false, false, false] rfl rfl (any_of HT_.out (by kernel_rfl)) (fun _ _ _ h => h) (Or.inl ⟨by rfl, ?_⟩) ?_ ?_
 rotate_left
 ·intro w'
  go_simp
  with_reducible rfl
 rotate_left
 ·simp only [Act.put, sS_, sZ_, sC_, i64_w, i32_w]
  rfl
 refine pure_ (i := 6) (N := some 11) (v := ?_) (a' := ?_) #[true, false, true, false, false, false, true, false, false, false, false, false, false, false] rfl rfl (any_of HT_.out (by kernel_rfl)) (fun _ _ _ h => h) (Or.inl ⟨by rfl, ?_⟩) ?_ ?_
 rotate_left
 ·intro w'
  go_simp
  with_reducible rfl
 rotate_left
 ·simp only [Act.put, sS_, sZ_, sC_, i64_w, i32_w]
  rfl
 refine pure_ (i := 8) (N := some 13) (v := ?_) (a' := ?_) #[true, false, true, false, false, false, true, false, true, false, false, false, false, false] rfl rfl (any_of HT_.out (by kernel_rfl)) (fun _ _ _ h => h) (Or.inl ⟨by rfl, ?_⟩) ?_ ?_
 rotate_left
 ·intro w'
  go_simp
  with_reducible rfl
 rotate_left
 ·simp only [Act.put, sS_, sZ_, sC_, i64_w, i32_w]
  rfl
 refine take_ (i := 1) (N := some 6) (v := ?_) (a' := ?_) #[true, true, true, false, false, false, true, false, true, false, false, false, false, false] rfl rfl (take_ofW HT_.out HW_.out (by kernel_rfl)) (fun _ _ _ h => h) (Or.inl ⟨by rfl, ?_⟩) hHeld ?_ ?_
 rotate_left
 ·rintro w' ⟨s0, s1, s2, s3, s4, s5, s6, s7, s8, s9, s10, s11, s12, s13⟩
  go_simp
  with_reducible rfl
 rotate_left
 ·simp only [Act.put, sS_, sZ_, sC_, i64_w, i32_w]
  rfl
 refine take_ (i := 3) (N := some 8) (v := ?_) (a' := ?_) #[true, true, true, true, false, false, true, false, true, false, false, false, false, false] rfl rfl (take_ofW HT_.out HW_.out (by kernel_rfl)) (fun _ _ _ h => h) (Or.inl ⟨by rfl, ?_⟩) hHeld ?_ ?_
 rotate_left
 ·rintro w' ⟨s0, s1, s2, s3, s4, s5, s6, s7, s8, s9, s10, s11, s12, s13⟩
  go_simp
  with_reducible rfl
 rotate_left
 ·simp only [Act.put, sS_, sZ_, sC_, i64_w, i32_w]
  rfl
 refine take_ (i := 7) (N := some 12) (v := ?_) (a' := ?_) #[true, true, true, true, false, false, true, true, true, false, false, false, false, false] rfl rfl (take_ofW HT_.out HW_.out (by kernel_rfl)) (fun _ _ _ h => h) (Or.inl ⟨by rfl, ?_⟩) hHeld ?_ ?_
 rotate_left
 ·rintro w' ⟨s0, s1, s2, s3, s4, s5, s6, s7, s8, s9, s10, s11, s12, s13⟩
  go_simp
  with_reducible rfl
 rotate_left
 ·simp only [Act.put, sS_, sZ_, sC_, i64_w, i32_w]
  rfl
 refine take_ (i := 9) (N := some 14) (v := ?_) (a' := ?_) #[true, true, true, true, false, false, true, true, true, true, false, false, false, false] rfl rfl (take_ofW HT_.out HW_.out (by kernel_rfl)) (fun _ _ _ h => h) (Or.inl ⟨by rfl, ?_⟩) hHeld ?_ ?_
 rotate_left
 ·rintro w' ⟨s0, s1, s2, s3, s4, s5, s6, s7, s8, s9, s10, s11, s12, s13⟩
  go_simp
  with_reducible rfl
 rotate_left
 ·simp only [Act.put, sS_, sZ_, sC_, i64_w, i32_w]
  rfl
 refine one_ (i := 4) (N := some 9) #[true, true, true, true, true, false, true, true, true, true, false, false, false, false] rfl rfl (one_of HT_.out (by kernel_rfl)) (by decide) (fun K hK => ?_)
 refine goes_ Try.func55 (by kernel_rfl) rfl #[.agg #[.int .i64 a1_1, .int .i64 a1_2, .int .i64 a1_3, .int .i64 a1_4, .bool a1_5]] (by rfl) rfl rfl (by (try simp only [List.map_toArray, List.map_cons, List.map_nil]); first | done | rfl | (simp only [List.length_drop, List.length_take]; rfl)) ?_
 with_reducible refine (impl_Appraisal_base.calls a1_1 a1_2 a1_3 a1_4 a1_5 t328 _ A3.out).mono ?_
 rintro e w9 ⟨rfl, hb⟩
 refine ⟨_, rfl, ?_⟩
 have n0_ := Aside0.mk (blk_below (g := gb326) (o := .cells #[.int .i64 a0_0, .int .i64 a0_1, .int .i64 a0_2, .int .i64 a0_3, .int .i64 a0_4, .bool a0_5, .int .i64 a0_6] 40 (0, 0)) (by (with_reducible repeat (first | refine blk_drewN ?_ _ | refine blk_drew ?_ | refine blk_alloc ?_ _)); exact BK326.out) hb)
 have n1_ := Aside0.mk (blk_below (g := gb327) (o := .cells #[.int .i64 a1_0, .int .i64 a1_1, .int .i64 a1_2, .int .i64 a1_3, .int .i64 a1_4, .bool a1_5, .int .i64 a1_6] 40 (0, 0)) (by (with_reducible repeat (first | refine blk_drewN ?_ _ | refine blk_drew ?_ | refine blk_alloc ?_ _)); exact BK327.out) hb)
 have n2_ := Aside0.mk (below_step (by repeat (first | (with_reducible first | exact HB.out | apply below_alloc | apply pw_below_drewN | apply below_drew1 | refine below_set ?_ GE326.out | refine below_set ?_ GE327.out) | exact HB.out)) hb)
 clear BK326
 clear BK327
 clear HB
 have BK326 := n0_
 have BK327 := n1_
 have HB := n2_
 clear n0_ n1_ n2_
 (try clear hb)
 (try clear hb2)
 (try clear hk)
 (try clear hi)
 refine hK.out _ _ ⟨(blk_cell BK326.out 0).trans rfl, (blk_cell BK326.out 1).trans rfl, (blk_cell BK326.out 2).trans rfl, (blk_cell BK326.out 3).trans rfl, (blk_cell BK326.out 4).trans rfl, (blk_cell BK326.out 5).trans rfl, (blk_cell BK326.out 6).trans rfl, (blk_cell BK327.out 0).trans rfl, (blk_cell BK327.out 1).trans rfl, (blk_cell BK327.out 2).trans rfl, (blk_cell BK327.out 3).trans rfl, (blk_cell BK327.out 4).trans rfl, (blk_cell BK327.out 5).trans rfl, (blk_cell BK327.out 6).trans rfl⟩ (fun hHeld => ?_)
 clear hK K
 refine norm_ (a' := ?_) ?_ ?_
 rotate_left
 ·show Act.put _ (some 9) _ = _
  simp only [Act.put, sS_, sZ_, sC_, i64_w, i32_w]
  rfl
 refine pure_ (i := 5) (N := some 10) (v := ?_) (a' := ?_) #[true, true, true, true, true, true, true, true, true, true, false, false, false, false] rfl rfl (any_of HT_.out (by kernel_rfl)) (fun _ _ _ h => h) (Or.inl ⟨by rfl, ?_⟩) ?_ ?_
 rotate_left
 ·intro w'
  go_simp
  with_reducible rfl
 rotate_left
 ·simp only [Act.put, sS_, sZ_, sC_, i64_w, i32_w]
  rfl
 refine one_ (i := 10) (N := some 15) #[true, true, true, true, true, true, true, true, true, true, true, false, false, false] rfl rfl (one_of HT_.out (by kernel_rfl)) (by decide) (fun K hK => ?_)
 refine goes_ Try.func55 (by kernel_rfl) rfl #[.agg #[.int .i64 a0_1, .int .i64 a0_2, .int .i64 a0_3, .int .i64 a0_4, .bool a0_5]] (by rfl) rfl rfl (by (try simp only [List.map_toArray, List.map_cons, List.map_nil]); first | done | rfl | (simp only [List.length_drop, List.length_take]; rfl)) ?_
 with_reducible refine (impl_Appraisal_base.calls a0_1 a0_2 a0_3 a0_4 a0_5 t329 _ A4.out).mono ?_
 rintro e w10 ⟨rfl, hb⟩
 refine ⟨_, rfl, ?_⟩
 have n0_ := Aside0.mk (blk_below (g := gb326) (o := .cells #[.int .i64 a0_0, .int .i64 a0_1, .int .i64 a0_2, .int .i64 a0_3, .int .i64 a0_4, .bool a0_5, .int .i64 a0_6] 40 (0, 0)) (by (with_reducible repeat (first | refine blk_drewN ?_ _ | refine blk_drew ?_ | refine blk_alloc ?_ _)); exact BK326.out) hb)
 have n1_ := Aside0.mk (blk_below (g := gb327) (o := .cells #[.int .i64 a1_0, .int .i64 a1_1, .int .i64 a1_2, .int .i64 a1_3, .int .i64 a1_4, .bool a1_5, .int .i64 a1_6] 40 (0, 0)) (by (with_reducible repeat (first | refine blk_drewN ?_ _ | refine blk_drew ?_ | refine blk_alloc ?_ _)); exact BK327.out) hb)
 have n2_ := Aside0.mk (below_step (by repeat (first | (with_reducible first | exact HB.out | apply below_alloc | apply pw_below_drewN | apply below_drew1 | refine below_set ?_ GE326.out | refine below_set ?_ GE327.out) | exact HB.out)) hb)
 clear BK326
 clear BK327
 clear HB
 have BK326 := n0_
 have BK327 := n1_
 have HB := n2_
 clear n0_ n1_ n2_
 (try clear hb)
 (try clear hb2)
 (try clear hk)
 (try clear hi)
 refine hK.out _ _ ⟨(blk_cell BK326.out 0).trans rfl, (blk_cell BK326.out 1).trans rfl, (blk_cell BK326.out 2).trans rfl, (blk_cell BK326.out 3).trans rfl, (blk_cell BK326.out 4).trans rfl, (blk_cell BK326.out 5).trans rfl, (blk_cell BK326.out 6).trans rfl, (blk_cell BK327.out 0).trans rfl, (blk_cell BK327.out 1).trans rfl, (blk_cell BK327.out 2).trans rfl, (blk_cell BK327.out 3).trans rfl, (blk_cell BK327.out 4).trans rfl, (blk_cell BK327.out 5).trans rfl, (blk_cell BK327.out 6).trans rfl⟩ (fun hHeld => ?_)
 clear hK K
 refine norm_ (a' := ?_) ?_ ?_
 rotate_left
 ·show Act.put _ (some 15) _ = _
  simp only [Act.put, sS_, sZ_, sC_, i64_w, i32_w]
  rfl
 refine pure_ (i := 11) (N := some 16) (v := ?_) (a' := ?_) #[true, true, true, true, true, true, true, true, true, true, true, true, false, false] rfl rfl (any_of HT_.out (by kernel_rfl)) (fun _ _ _ h => h) (Or.inl ⟨by rfl, ?_⟩) ?_ ?_
 rotate_left
 ·intro w'
  go_simp
  with_reducible rfl
 rotate_left
 ·simp only [Act.put, sS_, sZ_, sC_, i64_w, i32_w]
  rfl
 refine one_ (i := 12) (N := some 17) #[true, true, true, true, true, true, true, true, true, true, true, true, true, false] rfl rfl (one_of HT_.out (by kernel_rfl)) (by decide) (fun K hK => ?_)
 refine goes_ Try.func66 (by kernel_rfl) rfl #[.int .i64 (wrap64 (a0_6 * t328)), .int .i64 (wrap64 (a1_6 * t329))] (by rfl) rfl rfl (by (try simp only [List.map_toArray, List.map_cons, List.map_nil]); first | done | rfl | (simp only [List.length_drop, List.length_take]; rfl)) ?_
 with_reducible refine (cmp_Compare_int.calls (wrap64 (a0_6 * t328)) (wrap64 (a1_6 * t329)) t330 _ A5.out).mono ?_
 rintro e w' ⟨rfl, ⟨nd, rfl⟩⟩
 refine ⟨_, rfl, ?_⟩
 refine hK.out _ _ ⟨(blk_cell BK326.out 0).trans rfl, (blk_cell BK326.out 1).trans rfl, (blk_cell BK326.out 2).trans rfl, (blk_cell BK326.out 3).trans rfl, (blk_cell BK326.out 4).trans rfl, (blk_cell BK326.out 5).trans rfl, (blk_cell BK326.out 6).trans rfl, (blk_cell BK327.out 0).trans rfl, (blk_cell BK327.out 1).trans rfl, (blk_cell BK327.out 2).trans rfl, (blk_cell BK327.out 3).trans rfl, (blk_cell BK327.out 4).trans rfl, (blk_cell BK327.out 5).trans rfl, (blk_cell BK327.out 6).trans rfl⟩ (fun hHeld => ?_)
 clear hK K
 refine norm_ (a' := ?_) ?_ ?_
 rotate_left
 ·show Act.put _ (some 17) _ = _
  simp only [Act.put, sS_, sZ_, sC_, i64_w, i32_w]
  rfl
 refine pure_ (i := 13) (N := some 4) (v := ?_) (a' := ?_) #[true, true, true, true, true, true, true, true, true, true, true, true, true, true] rfl rfl (any_of HT_.out (by kernel_rfl)) (fun _ _ _ h => h) (Or.inl ⟨by rfl, ?_⟩) ?_ ?_
 rotate_left
 ·intro w'
  go_simp
  with_reducible rfl
 rotate_left
 ·simp only [Act.put, sS_, sZ_, sC_, i64_w, i32_w]
  rfl
 refine done_ (done_of HT_.out (by kernel_rfl)) ?_
 try go_wp2
 go_ret
 exact ⟨by first | rfl | (simp [errW_none, errW_some] <;> rfl) | (simp [*, errW_none, errW_some] <;> rfl) | (simp [wrap64]; done), by repeat (first | (with_reducible first | exact HB.out | apply below_alloc | apply pw_below_drewN | apply below_drew1 | refine below_set ?_ GE326.out | refine below_set ?_ GE327.out) | exact HB.out)⟩

end Go.Proofs.Ytembbdhhpblapaa.Q

namespace Go.Proofs.Ytembbdhhpblapaa.WK
open Go Go.RowKit Go.Proofs.Ytembbdhhpblapaa.Q Go.Proofs.Ytembbdhhpblapaa.M Go.Proofs.YtembbdhhpblapaaW.PrintWords Go.Proofs.YtembbdhhpblapaaW.SL
open Go.Proofs.YtembbdhhpblapaaW.Pl (nth nth_get nth_mem)
set_option linter.unusedSimpArgs false
set_option linter.unusedVariables false
set_option maxRecDepth 100000
namespace EI
open Go.Proofs.Ytembbdhhpblapaa.M.EB
theorem agg25 : AggT Try.prog 25 5 := ⟨by kernel_rfl⟩
theorem agg40 : AggT Try.prog 40 7 := ⟨by kernel_rfl⟩
theorem sz40 : SzT Try.prog 40 7 := ⟨by kernel_rfl⟩
theorem sz25 : SzT Try.prog 25 5 := ⟨by kernel_rfl⟩
theorem sc3 : ScT Try.prog 3 := ⟨by kernel_rfl⟩
theorem fld40_1 : FldT Try.prog 40 1 1 := ⟨by kernel_rfl⟩
theorem fld40_2 : FldT Try.prog 40 2 6 := ⟨by kernel_rfl⟩
theorem zero40 : ZeroT Try.prog 40 [.int .i64 0, .int .i64 0, .int .i64 0, .int .i64 0, .int .i64 0, .bool false, .int .i64 0] := ⟨by kernel_rfl⟩
theorem el46 : ElT Try.prog 46 40 7 := ⟨by kernel_rfl⟩
theorem en31 : Ent Try.prog 31 := ⟨enters_of Try.func31 (by kernel_rfl) rfl⟩
theorem en16 : Ent Try.prog 16 := ⟨enters_of Try.func16 (by kernel_rfl) rfl⟩
theorem en77 : Ent Try.prog 77 := ⟨enters_of Try.func77 (by kernel_rfl) rfl⟩
theorem en76 : Ent Try.prog 76 := ⟨enters_of Try.func76 (by kernel_rfl) rfl⟩
theorem en79 : Ent Try.prog 79 := ⟨enters_of Try.func79 (by kernel_rfl) rfl⟩
theorem en55 : Ent Try.prog 55 := ⟨enters_of Try.func55 (by kernel_rfl) rfl⟩
theorem en53 : Ent Try.prog 53 := ⟨enters_of Try.func53 (by kernel_rfl) rfl⟩
theorem en78 : Ent Try.prog 78 := ⟨enters_of Try.func78 (by kernel_rfl) rfl⟩
theorem en80 : Ent Try.prog 80 := ⟨enters_of Try.func80 (by kernel_rfl) rfl⟩
theorem mixed : Try.prog.follows .mixedOrders = true := by kernel_rfl
def enc (x : S40) : List Value := [.int .i64 x.f0, .int .i64 x.f1.f0, .int .i64 x.f1.f1, .int .i64 x.f1.f2, .int .i64 x.f1.f3, .bool x.f1.f4, .int .i64 x.f2]
def dec : List Value → S40
  | [.int _ y, .int _ p, .int _ q, .int _ r, .int _ s, .bool e, .int _ n] => ⟨y, ⟨p, q, r, s, e⟩, n⟩
  | _ => z40
theorem encM (w : World) (b : Nat) (ok : Nat → Prop) (x : S40) (cs : List Value) : k40.M w b ok x cs ↔ cs = enc x := ⟨fun h => k40_openM h, fun h => h ▸ k40_mkM w b ok x⟩
theorem encO (x : S40) : ∀ u ∈ enc x, u.oneCell' = true := fun u hu => by
  simp only [enc, List.mem_cons, List.not_mem_nil, or_false] at hu
  rcases hu with rfl | rfl | rfl | rfl | rfl | rfl | rfl <;> rfl
theorem rowRaw {w : World} {A : Nat → Prop} {v : Value} {xs : List S40} : (Item.row k40 40 0 v xs).p w A ↔ (Item.row (Kd.raw 7) 40 0 v (xs.map enc)).p w A := row_raw rfl encM (fun _ => rfl) encO
set_option maxHeartbeats 2000000 in
/-- The first closure: is a sale not alike? -/
theorem clo (a : S25) (x : S40) (h : Nat) (w : World) (hbox : w.heap[h]? = some (.cells ([.int .i64 a.f0, .int .i64 a.f1, .int .i64 a.f2, .int .i64 a.f3, .bool a.f4] : List Value).toArray 25 (0, 0))) (ha : okAx a = true) (hx : okA x.f1.f0 x.f1.f1 x.f1.f2 x.f1.f3 = true) :
    Calls Try.prog 78 (#[.agg (enc x).toArray] ++ #[.pointer (some ⟨h, 0, none⟩)]) w fun e w' => e = .returned (.bool (!alS a x)) ∧ Below w.heap.size w w' := by
  have hlt := blk_lt hbox
  have hal : impl_Appraisal_isAlike.f x.f1.f0 x.f1.f1 x.f1.f2 x.f1.f3 x.f1.f4 a.f0 a.f1 a.f2 a.f3 a.f4 = some (alS a x) := iAlike _ _ hx ha
  rw [show (#[Value.agg (enc x).toArray] ++ #[Value.pointer (some ⟨h, 0, none⟩)] : Array Value) = [Value.agg ([.int .i64 x.f0, .int .i64 x.f1.f0, .int .i64 x.f1.f1, .int .i64 x.f1.f2, .int .i64 x.f1.f3, .bool x.f1.f4, .int .i64 x.f2] : List Value).toArray, .pointer (some ⟨h, 0, none⟩)].toArray from by simp [enc]]
  refine enterW (args := [.agg ([.int .i64 x.f0, .int .i64 x.f1.f0, .int .i64 x.f1.f1, .int .i64 x.f1.f2, .int .i64 x.f1.f3, .bool x.f1.f4, .int .i64 x.f2] : List Value).toArray, .pointer (some ⟨h, 0, none⟩)]) (R := fun e w' => e = .returned (.bool (!alS a x)) ∧ Below w.heap.size w w') [fun W => Cells W ⟨h, 0, none⟩ [.int .i64 a.f0, .int .i64 a.f1, .int .i64 a.f2, .int .i64 a.f3, .bool a.f4]] (fun p hp W hb => by
    rw [List.mem_singleton.1 hp]
    have := Box_cells (w := W) (g := h) (T' := 25) (cs := [.int .i64 a.f0, .int .i64 a.f1, .int .i64 a.f2, .int .i64 a.f3, .bool a.f4]) (by rw [hb.block h hlt]; exact hbox) 0
    simpa using this) Try.func78 rfl rfl ?_
  repeat (first
    | (apply gateO; first
      | refine Jl.yd (Y.mv rfl rfl) rfl rfl rfl ?_
      | refine Jl.yd (Y.asg rfl rfl) rfl rfl rfl ?_
      | refine Jl.yd (Y.ext rfl rfl rfl) rfl rfl rfl ?_
      | refine Jl.yd (Y.pickT rfl rfl rfl) rfl rfl rfl ?_
      | refine Jl.yd (Y.pickF rfl rfl rfl) rfl rfl rfl ?_
      | refine Jl.off rfl rfl rfl ?_
      | refine Jl.yd (Y.cmpF rfl rfl rfl rfl (by omega)) rfl rfl rfl ?_
      | refine Jl.yd (Y.cmpT rfl rfl rfl rfl (by omega)) rfl rfl rfl ?_
      | refine Jl.yd (Y.neqB rfl rfl rfl Try.underlying4) rfl rfl rfl ?_
      | refine Jl.yd (Y.cmp rfl rfl rfl rfl) rfl rfl rfl ?_
      | refine Jl.yd (Y.not rfl rfl) rfl rfl rfl ?_
      | refine Jl.yd (Y.arithN rfl rfl rfl rfl (by omega)) rfl rfl rfl ?_
      | refine Jl.yd (Y.arith64 rfl rfl rfl rfl) rfl rfl rfl ?_
      | refine Jl.yd (Y.fld0 rfl rfl fld40_1) rfl rfl rfl ?_
      | refine Jl.box (zs := [.int .i64 x.f0, .int .i64 x.f1.f0, .int .i64 x.f1.f1, .int .i64 x.f1.f2, .int .i64 x.f1.f3, .bool x.f1.f4, .int .i64 x.f2]) rfl rfl rfl rfl rfl (by rfl) (fun g => ?_)
      | refine Jl.yd (Y.loadE (u := [.int .i64 x.f1.f0, .int .i64 x.f1.f1, .int .i64 x.f1.f2, .int .i64 x.f1.f3, .bool x.f1.f4]) rfl rfl agg25 (by repeat (first | exact .head _ | refine .tail _ ?_)) (by rfl) (by rfl)) rfl rfl rfl ?_
      | refine Jl.yd (Y.loadF (us := [.int .i64 a.f0, .int .i64 a.f1, .int .i64 a.f2, .int .i64 a.f3, .bool a.f4]) rfl rfl agg25 (by repeat (first | exact .head _ | refine .tail _ ?_)) (by rfl)) rfl rfl rfl ?_
      | refine Jl.call1 (v := .bool (alS a x)) rfl rfl rfl rfl en53 rfl (fun w hW => by with_reducible exact impl_Appraisal_isAlike.calls x.f1.f0 x.f1.f1 x.f1.f2 x.f1.f3 x.f1.f4 a.f0 a.f1 a.f2 a.f3 a.f4 (alS a x) w hal) ?_
      | refine Jl.splitG rfl rfl (fun h => ?_) (fun h => ?_))
    | (apply gateE; first
      | refine Jl.nil (Ej.go ?_ (fun _ _ h => h))
      | (refine Jl.nil (Ej.back (fun _ _ h => h) (by repeat (first | exact .refl | apply DropTo.tail)) ?_); repeat (first | exact trivial | refine ⟨rfl, ?_⟩)))
    | (apply gateC; first
      | refine Cj.block rfl ?_
      | refine Cj.ret rfl (Ej.out1 (P := Try.prog) (fn := Try.f78) (R := fun e w' => e = .returned (.bool (!alS a x)) ∧ Below w.heap.size w w') (fun _ _ h => h) rfl rfl (fun w hW => ⟨rfl, hW.below⟩))
      | refine Cj.condF rfl rfl (Cj.skip rfl (Ej.go ?_ (fun _ _ h => h)))
      | (refine Cj.condF rfl rfl (Cj.skip rfl (Ej.back (fun _ _ h => h) (by repeat (first | exact .refl | apply DropTo.tail)) ?_)); repeat (first | exact trivial | refine ⟨rfl, ?_⟩))
      | refine Cj.condF rfl rfl ?_
      | refine Cj.condT rfl rfl ?_
      | refine Cj.exit rfl (Ej.go ?_ (fun _ _ h => h))
      | refine Cj.cond rfl rfl (fun h => ?_) (fun h => ?_)
      | refine Cj.skip rfl (Ej.go ?_ (fun _ _ h => h))
      | (refine Cj.skip rfl (Ej.back (fun _ _ h => h) (by repeat (first | exact .refl | apply DropTo.tail)) ?_); repeat (first | exact trivial | refine ⟨rfl, ?_⟩))
      | refine Cj.seq rfl ?_
      | refine Cj.region rfl ?_))
theorem cmp_ (x y : S40) (hx : okSx x = true) (hy : okSx y = true) (w : World) : Calls Try.prog 80 (#[.agg (enc x).toArray, .agg (enc y).toArray] ++ #[]) w fun e w' => e = .returned (.int .i64 (cmpS x y)) ∧ Below w.heap.size w w' := by
  obtain ⟨_, h1, _⟩ := okS_iff.1 hx
  obtain ⟨_, k1, _⟩ := okS_iff.1 hy
  have b1 := prod_b hx hy
  have b2 := prod_b hy hx
  refine impl_EstimateBy_2.calls x.f0 x.f1.f0 x.f1.f1 x.f1.f2 x.f1.f3 x.f1.f4 x.f2 y.f0 y.f1.f0 y.f1.f1 y.f1.f2 y.f1.f3 y.f1.f4 y.f2 (cmpS x y) w ?_
  unfold impl_EstimateBy_2.f
  rw [iBase _ k1, iBase _ h1]
  simp only [Option.bind_some]
  rw [show bA y.f1.f0 y.f1.f1 y.f1.f4 = bAx y.f1 from rfl, show bA x.f1.f0 x.f1.f1 x.f1.f4 = bAx x.f1 from rfl, w64 (by omega), w64 (by omega), cmpI]
  rfl
/-- What a call hands back: a row of its own. -/
def Own1 (w : World) (A : Nat → Prop) (fl : List S40) (e : Ending) (w' : World) : Prop := ∃ q : Option Addr × Nat, (fl.length ≠ 0 → ∃ h, q.1 = some ⟨h, 0, none⟩) ∧ e = .returned (.slice q.1 fl.length q.2) ∧ ∃ A', (Item.row k40 40 0 (.slice q.1 fl.length q.2) fl).p w' A' ∧ (∀ k, A' k → k < w.heap.size → A k) ∧ Aft A w w'
theorem zip_self : ∀ l : List S40, l.zip l = l.map (fun x => (x, x))
  | [] => rfl
  | x :: l => by rw [List.zip_cons_cons, zip_self l]; rfl
theorem del_ (a : S25) (l : List S40) (ha : okAx a = true) (hl : ∀ x, x ∈ l → okSx x = true) (w : World) (A : Nat → Prop) (v : Value) (g : Nat) (hA : (Item.row k40 40 0 v l).p w A) (hbox : ∀ W, Aft A w W → W.heap[g]? = some (.cells ([.int .i64 a.f0, .int .i64 a.f1, .int .i64 a.f2, .int .i64 a.f3, .bool a.f4] : List Value).toArray 25 (0, 0))) :
    Calls Try.prog 76 #[v, .func (.func 78) #[] #[.pointer (some ⟨g, 0, none⟩)]] w fun e w' => Own1 w A (l.filter (alS a)) e w' := by
  have h0 := rowRaw.1 hA
  refine (Del76.calls 78 #[.pointer (some ⟨g, 0, none⟩)] en78 (fun x => !alS a x) w A v (l.map enc) l (by simp) h0 (fun W hW j x us hx hu => ?_) (fun W hW x hx us hk => ?_)).mono ?_
  · rw [List.getElem?_map, hx] at hu
    obtain rfl : enc x = us := by simpa using hu
    exact k40_mk W x
  · obtain rfl := k40_open hk
    exact clo a x g W (hbox W hW) ha (okS_iff.1 (hl x hx)).2.1
  · rintro e w' ⟨v', rfl, h1, A', h2, h3, h4⟩
    have hk : (Del76.kept (fun x => !alS a x) l (l.map enc) l.length).map (·.2) = (l.filter (alS a)).map enc := by
      unfold Del76.kept
      rw [List.take_of_length_le (by rw [List.length_zip]; simp), List.zip_map_right, List.filter_map, List.map_map]
      rw [zip_self, List.filter_map, List.map_map]
      congr 1
      congr 1
      funext x
      simp
    rw [hk] at h2
    have h5 := rowRaw.2 h2
    rcases row_form h5.1 with ⟨c, rfl, e0⟩ | ⟨h, c, rfl⟩
    · rw [e0] at h5 ⊢
      exact ⟨(none, c), fun h => absurd rfl h, rfl, A', h5, h3, h4⟩
    · exact ⟨(some ⟨h, 0, none⟩, c), fun _ => ⟨h, rfl⟩, rfl, A', h5, h3, h4⟩
theorem del_n (a : S25) (l : List S40) (ha : okAx a = true) (hl : ∀ x, x ∈ l → okSx x = true) (hz : (l.filter (alS a)).length ≠ 0) (w : World) (A : Nat → Prop) (v : Value) (g : Nat) (hA : (Item.row k40 40 0 v l).p w A) (hbox : ∀ W, Aft A w W → W.heap[g]? = some (.cells ([.int .i64 a.f0, .int .i64 a.f1, .int .i64 a.f2, .int .i64 a.f3, .bool a.f4] : List Value).toArray 25 (0, 0))) :
    Calls Try.prog 76 #[v, .func (.func 78) #[] #[.pointer (some ⟨g, 0, none⟩)]] w fun e w' => ∃ q : Nat × Nat, True ∧ e = .returned (.slice (some ⟨q.1, 0, none⟩) (l.filter (alS a)).length q.2) ∧ ∃ A', (Item.row k40 40 0 (.slice (some ⟨q.1, 0, none⟩) (l.filter (alS a)).length q.2) (l.filter (alS a))).p w' A' ∧ (∀ k, A' k → k < w.heap.size → A k) ∧ Aft A w w' :=
  (del_ a l ha hl w A v g hA hbox).mono (fun e w' hh => by
    obtain ⟨⟨q1, q2⟩, h1, h2, h3⟩ := hh
    obtain ⟨h, e1⟩ := h1 hz
    dsimp only at e1 h2 h3
    subst e1
    exact ⟨(h, q2), trivial, h2, h3⟩)
theorem sort_ (ys : List S40) (hl : ∀ x, x ∈ ys → okSx x = true) (h12 : ys.length ≤ 12) (w : World) (A : Nat → Prop) (h c : Nat) (hA : (Item.row k40 40 0 (.slice (some ⟨h, 0, none⟩) ys.length c) ys).p w A) :
    Calls Try.prog 79 #[.slice (some ⟨h, 0, none⟩) ys.length c, .func (.func 80) #[] #[]] w fun e w' => e = .returned (.tuple #[]) ∧ ∃ A', (Item.row k40 40 0 (.slice (some ⟨h, 0, none⟩) ys.length c) (isort ltS ys)).p w' A' ∧ (∀ k, A' k → k < w.heap.size → A k) ∧ Aft A w w' := by
  have h0 := rowRaw.1 hA
  have hlm : (ys.map enc).length = ys.length := List.length_map ..
  rw [← hlm] at h0 ⊢
  refine (Ins98.sortF 80 #[] en80 (fun u v => cmpS (dec u) (dec v)) w A h c (ys.map enc) h0 (fun W hW u v hu hv => ?_) (by omega)).mono ?_
  · obtain ⟨x, hx, rfl⟩ := List.mem_map.1 hu
    obtain ⟨y, hy, rfl⟩ := List.mem_map.1 hv
    exact cmp_ x y (hl x hx) (hl y hy) W
  · rintro e w' ⟨rfl, A', h1, h2, h3⟩
    refine ⟨rfl, A', rowRaw.2 ?_, h2, h3⟩
    rw [isort_map enc (lt := ltS) (lt' := Ins98.ltc (fun u v => cmpS (dec u) (dec v))) (fun x y _ _ => cmpS_lt x y)] at h1
    exact h1
theorem clone_f (l : List S40) (h : l.length ≤ 1048576) : impl_Sale_77.f l = some l := by
  unfold impl_Sale_77.f
  rw [Option.bind_some, if_pos (by simp; omega), List.nil_append]
set_option maxHeartbeats 4000000 in
theorem calls (k : Nat) (A0 : Option Addr) (c0 : Nat) (l : List S40) (a : S25) (w : World) (hr0 : Kd.C k40 w A0 l.length l) (hc0 : l.length ≤ c0) (hlb : l.length ≤ 1048576) (hk : l.length < k) : Calls Try.prog 44 #[.slice A0 l.length c0, .agg ([.int .i64 a.f0, .int .i64 a.f1, .int .i64 a.f2, .int .i64 a.f3, .bool a.f4] : List Value).toArray] w fun e w' => e = .returned (.tuple #[.int .i64 (estF l a).1, .bool (estF l a).2]) ∧ Below w.heap.size w w' := by
  let Rr : Ending → World → Prop := fun e w' => e = .returned (.tuple #[.int .i64 (estF l a).1, .bool (estF l a).2]) ∧ Below w.heap.size w w'
  have hG := iGood l hlb k hk
  have hO := iIsA a.f0 a.f1 a.f2 a.f3 a.f4
  refine enterW (args := [.slice A0 l.length c0, .agg ([.int .i64 a.f0, .int .i64 a.f1, .int .i64 a.f2, .int .i64 a.f3, .bool a.f4] : List Value).toArray]) [(fun W => Kd.C k40 W A0 l.length l)] (fun p hp W hb => by rw [List.mem_singleton.1 hp]; exact Kd.C_below hr0 hb) Try.func44 rfl rfl ?_
  show Cj Try.prog _ _ _ (bodyPost Try.prog Try.f44 Rr) _ _ _
  cases hg : goodS l with
  | false =>
    rw [hg] at hG
    have hE : estF l a = (0, false) := by unfold estF; rw [hg]; rfl
    repeat (first
    | (apply gateO; first
      | refine Jl.yd (Y.mv rfl rfl) rfl rfl rfl ?_
      | refine Jl.yd (Y.asg rfl rfl) rfl rfl rfl ?_
      | refine Jl.yd (Y.ext rfl rfl rfl) rfl rfl rfl ?_
      | refine Jl.yd (Y.pickT rfl rfl rfl) rfl rfl rfl ?_
      | refine Jl.yd (Y.pickF rfl rfl rfl) rfl rfl rfl ?_
      | refine Jl.off rfl rfl rfl ?_
      | refine Jl.yd (Y.cmpF rfl rfl rfl rfl (by omega)) rfl rfl rfl ?_
      | refine Jl.yd (Y.cmpT rfl rfl rfl rfl (by omega)) rfl rfl rfl ?_
      | refine Jl.yd (Y.neqB rfl rfl rfl Try.underlying4) rfl rfl rfl ?_
      | refine Jl.yd (Y.cmp rfl rfl rfl rfl) rfl rfl rfl ?_
      | refine Jl.yd (Y.not rfl rfl) rfl rfl rfl ?_
      | refine Jl.yd (Y.arithN rfl rfl rfl rfl (by omega)) rfl rfl rfl ?_
      | refine Jl.yd (Y.arith64 rfl rfl rfl rfl) rfl rfl rfl ?_
      | refine Jl.yd (Y.loadA rfl rfl agg25 (by repeat (first | exact .head _ | refine .tail _ ?_)) (by rfl)) rfl rfl rfl ?_
      | refine Jl.box (zs := [.int .i64 a.f0, .int .i64 a.f1, .int .i64 a.f2, .int .i64 a.f3, .bool a.f4]) rfl rfl rfl rfl rfl (by rfl) (fun g => ?_)
      | refine Jl.call1 (v := .bool false) rfl rfl rfl rfl en31 rfl (fun w hW => by with_reducible exact impl_AreSales.calls k A0 c0 l false w (hW.fact (p := (fun W => Kd.C k40 W A0 l.length l)) (by repeat (first | exact memH | refine memT ?_))) hc0 hG) ?_
      | refine Jl.splitG rfl rfl (fun h => ?_) (fun h => ?_))
    | (apply gateE; first
      | refine Jl.nil (Ej.go ?_ (fun _ _ h => h))
      | (refine Jl.nil (Ej.back (fun _ _ h => h) (by repeat (first | exact .refl | apply DropTo.tail)) ?_); repeat (first | exact trivial | refine ⟨rfl, ?_⟩)))
    | (apply gateC; first
      | refine Cj.block rfl ?_
      | refine Cj.ret rfl (Ej.out2 (P := Try.prog) (fn := Try.f44) (R := Rr) (fun _ _ h => h) rfl rfl rfl (fun w' hW => ⟨by rw [hE], hW.below⟩))
      | refine Cj.condF rfl rfl (Cj.skip rfl (Ej.go ?_ (fun _ _ h => h)))
      | (refine Cj.condF rfl rfl (Cj.skip rfl (Ej.back (fun _ _ h => h) (by repeat (first | exact .refl | apply DropTo.tail)) ?_)); repeat (first | exact trivial | refine ⟨rfl, ?_⟩))
      | refine Cj.condF rfl rfl ?_
      | refine Cj.condT rfl rfl ?_
      | refine Cj.exit rfl (Ej.go ?_ (fun _ _ h => h))
      | refine Cj.cond rfl rfl (fun h => ?_) (fun h => ?_)
      | refine Cj.skip rfl (Ej.go ?_ (fun _ _ h => h))
      | (refine Cj.skip rfl (Ej.back (fun _ _ h => h) (by repeat (first | exact .refl | apply DropTo.tail)) ?_); repeat (first | exact trivial | refine ⟨rfl, ?_⟩))
      | refine Cj.seq rfl ?_
      | refine Cj.region rfl ?_))
  | true =>
    rw [hg] at hG
    cases ha : okAx a with
    | false =>
      rw [show okA a.f0 a.f1 a.f2 a.f3 = false from ha] at hO
      have hE : estF l a = (0, false) := by unfold estF; rw [hg, ha]; rfl
      repeat (first
    | (apply gateO; first
      | refine Jl.yd (Y.mv rfl rfl) rfl rfl rfl ?_
      | refine Jl.yd (Y.asg rfl rfl) rfl rfl rfl ?_
      | refine Jl.yd (Y.ext rfl rfl rfl) rfl rfl rfl ?_
      | refine Jl.yd (Y.pickT rfl rfl rfl) rfl rfl rfl ?_
      | refine Jl.yd (Y.pickF rfl rfl rfl) rfl rfl rfl ?_
      | refine Jl.off rfl rfl rfl ?_
      | refine Jl.yd (Y.cmpF rfl rfl rfl rfl (by omega)) rfl rfl rfl ?_
      | refine Jl.yd (Y.cmpT rfl rfl rfl rfl (by omega)) rfl rfl rfl ?_
      | refine Jl.yd (Y.neqB rfl rfl rfl Try.underlying4) rfl rfl rfl ?_
      | refine Jl.yd (Y.cmp rfl rfl rfl rfl) rfl rfl rfl ?_
      | refine Jl.yd (Y.not rfl rfl) rfl rfl rfl ?_
      | refine Jl.yd (Y.arithN rfl rfl rfl rfl (by omega)) rfl rfl rfl ?_
      | refine Jl.yd (Y.arith64 rfl rfl rfl rfl) rfl rfl rfl ?_
      | refine Jl.yd (Y.loadA rfl rfl agg25 (by repeat (first | exact .head _ | refine .tail _ ?_)) (by rfl)) rfl rfl rfl ?_
      | refine Jl.box (zs := [.int .i64 a.f0, .int .i64 a.f1, .int .i64 a.f2, .int .i64 a.f3, .bool a.f4]) rfl rfl rfl rfl rfl (by rfl) (fun g => ?_)
      | refine Jl.call1 (v := .bool true) rfl rfl rfl rfl en31 rfl (fun w hW => by with_reducible exact impl_AreSales.calls k A0 c0 l true w (hW.fact (p := (fun W => Kd.C k40 W A0 l.length l)) (by repeat (first | exact memH | refine memT ?_))) hc0 hG) ?_
      | refine Jl.call1 (v := .bool false) rfl rfl rfl rfl en16 rfl (fun w hW => by with_reducible exact impl_IsAppraisal.calls a.f0 a.f1 a.f2 a.f3 a.f4 false w hO) ?_
      | refine Jl.splitG rfl rfl (fun h => ?_) (fun h => ?_))
    | (apply gateE; first
      | refine Jl.nil (Ej.go ?_ (fun _ _ h => h))
      | (refine Jl.nil (Ej.back (fun _ _ h => h) (by repeat (first | exact .refl | apply DropTo.tail)) ?_); repeat (first | exact trivial | refine ⟨rfl, ?_⟩)))
    | (apply gateC; first
      | refine Cj.block rfl ?_
      | refine Cj.ret rfl (Ej.out2 (P := Try.prog) (fn := Try.f44) (R := Rr) (fun _ _ h => h) rfl rfl rfl (fun w' hW => ⟨by rw [hE], hW.below⟩))
      | refine Cj.condF rfl rfl (Cj.skip rfl (Ej.go ?_ (fun _ _ h => h)))
      | (refine Cj.condF rfl rfl (Cj.skip rfl (Ej.back (fun _ _ h => h) (by repeat (first | exact .refl | apply DropTo.tail)) ?_)); repeat (first | exact trivial | refine ⟨rfl, ?_⟩))
      | refine Cj.condF rfl rfl ?_
      | refine Cj.condT rfl rfl ?_
      | refine Cj.exit rfl (Ej.go ?_ (fun _ _ h => h))
      | refine Cj.cond rfl rfl (fun h => ?_) (fun h => ?_)
      | refine Cj.skip rfl (Ej.go ?_ (fun _ _ h => h))
      | (refine Cj.skip rfl (Ej.back (fun _ _ h => h) (by repeat (first | exact .refl | apply DropTo.tail)) ?_); repeat (first | exact trivial | refine ⟨rfl, ?_⟩))
      | refine Cj.seq rfl ?_
      | refine Cj.region rfl ?_))
    | true =>
      rw [show okA a.f0 a.f1 a.f2 a.f3 = true from ha] at hO
      have hgood : ∀ x, x ∈ l → okSx x = true := fun x hx => good_mem hg hx
      have hgf : ∀ x, x ∈ l.filter (alS a) → okSx x = true := fun x hx => hgood x (List.mem_filter.1 hx).1
      have h12 : (l.filter (alS a)).length ≤ 12 := Nat.le_trans (List.length_filter_le _ _) (by have := (goodS_at hg).1; omega)
      have hnl : (nearS l a).length = (l.filter (alS a)).length := by unfold nearS; rw [isort_len]
      by_cases hz : (l.filter (alS a)).length = 0
      · have hE : estF l a = (0, false) := by unfold estF; rw [hg, ha, if_pos (show (true && true) = true from rfl), if_pos (by omega)]
        repeat (first
    | (apply gateO; first
      | refine Jl.yd (Y.mv rfl rfl) rfl rfl rfl ?_
      | refine Jl.yd (Y.asg rfl rfl) rfl rfl rfl ?_
      | refine Jl.yd (Y.ext rfl rfl rfl) rfl rfl rfl ?_
      | refine Jl.yd (Y.pickT rfl rfl rfl) rfl rfl rfl ?_
      | refine Jl.yd (Y.pickF rfl rfl rfl) rfl rfl rfl ?_
      | refine Jl.off rfl rfl rfl ?_
      | refine Jl.yd (Y.cmpF rfl rfl rfl rfl (by omega)) rfl rfl rfl ?_
      | refine Jl.yd (Y.cmpT rfl rfl rfl rfl (by omega)) rfl rfl rfl ?_
      | refine Jl.yd (Y.neqB rfl rfl rfl Try.underlying4) rfl rfl rfl ?_
      | refine Jl.yd (Y.cmp rfl rfl rfl rfl) rfl rfl rfl ?_
      | refine Jl.yd (Y.not rfl rfl) rfl rfl rfl ?_
      | refine Jl.yd (Y.arithN rfl rfl rfl rfl (by omega)) rfl rfl rfl ?_
      | refine Jl.yd (Y.arith64 rfl rfl rfl rfl) rfl rfl rfl ?_
      | refine Jl.yd (Y.loadA rfl rfl agg25 (by repeat (first | exact .head _ | refine .tail _ ?_)) (by rfl)) rfl rfl rfl ?_
      | refine Jl.yd (Y.lenS Try.underlying46 rfl rfl rfl) rfl rfl rfl ?_
      | refine Jl.box (zs := [.int .i64 a.f0, .int .i64 a.f1, .int .i64 a.f2, .int .i64 a.f3, .bool a.f4]) rfl rfl rfl rfl rfl (by rfl) (fun g => ?_)
      | refine Jl.call1 (v := .bool true) rfl rfl rfl rfl en31 rfl (fun w hW => by with_reducible exact impl_AreSales.calls k A0 c0 l true w (hW.fact (p := (fun W => Kd.C k40 W A0 l.length l)) (by repeat (first | exact memH | refine memT ?_))) hc0 hG) ?_
      | refine Jl.call1 (v := .bool true) rfl rfl rfl rfl en16 rfl (fun w hW => by with_reducible exact impl_IsAppraisal.calls a.f0 a.f1 a.f2 a.f3 a.f4 true w hO) ?_
      | refine Jl.callR 0 (fun v => v) rfl rfl rfl rfl en77 rfl (fun w hW => by with_reducible exact impl_Sale_77.calls A0 c0 l l w (hW.fact (p := (fun W => Kd.C k40 W A0 l.length l)) (by repeat (first | exact memH | refine memT ?_))) hc0 (clone_f l hlb)) (fun A1 c1 hl1 => ?_)
      | refine Jl.yd (Y.mkFn1 rfl rfl) rfl rfl rfl ?_
      | refine Jl.callX (ι := Option Addr × Nat) (fun q => (l.filter (alS a)).length ≠ 0 → ∃ h, q.1 = some ⟨h, 0, none⟩) (fun q => .slice q.1 (l.filter (alS a)).length q.2) (.row k40 40 0 (.slice A1 l.length c1) l) (fun q => .row k40 40 0 (.slice q.1 (l.filter (alS a)).length q.2) (l.filter (alS a))) rfl rfl rfl rfl en76 rfl (by repeat (first | exact .z | apply OutAt.s)) (fun w A hA hB => del_ a l ha hgood w A _ g hA (fun W hW => Box_at (hB W hW) (by repeat (first | exact memH | refine memT ?_)))) (fun q hq => ?_)
      | refine Jl.splitG rfl rfl (fun h => ?_) (fun h => ?_))
    | (apply gateE; first
      | refine Jl.nil (Ej.go ?_ (fun _ _ h => h))
      | (refine Jl.nil (Ej.back (fun _ _ h => h) (by repeat (first | exact .refl | apply DropTo.tail)) ?_); repeat (first | exact trivial | refine ⟨rfl, ?_⟩)))
    | (apply gateC; first
      | refine Cj.block rfl ?_
      | refine Cj.ret rfl (Ej.out2 (P := Try.prog) (fn := Try.f44) (R := Rr) (fun _ _ h => h) rfl rfl rfl (fun w' hW => ⟨by rw [hE], hW.below⟩))
      | refine Cj.condF rfl rfl (Cj.skip rfl (Ej.go ?_ (fun _ _ h => h)))
      | (refine Cj.condF rfl rfl (Cj.skip rfl (Ej.back (fun _ _ h => h) (by repeat (first | exact .refl | apply DropTo.tail)) ?_)); repeat (first | exact trivial | refine ⟨rfl, ?_⟩))
      | refine Cj.condF rfl rfl ?_
      | refine Cj.condT rfl rfl ?_
      | refine Cj.exit rfl (Ej.go ?_ (fun _ _ h => h))
      | refine Cj.cond rfl rfl (fun h => ?_) (fun h => ?_)
      | refine Cj.skip rfl (Ej.go ?_ (fun _ _ h => h))
      | (refine Cj.skip rfl (Ej.back (fun _ _ h => h) (by repeat (first | exact .refl | apply DropTo.tail)) ?_); repeat (first | exact trivial | refine ⟨rfl, ?_⟩))
      | refine Cj.seq rfl ?_
      | refine Cj.region rfl ?_))
      · obtain ⟨m, hm⟩ : ∃ m, medS l a = m := ⟨_, rfl⟩
        have hmm : m ∈ l := near_mem (hm ▸ med_mem (by omega))
        have hE : estF l a = (Int.tdiv (bAx a * m.f2) (bAx m.f1), true) := by unfold estF; rw [hg, ha, if_pos (show (true && true) = true from rfl), if_neg (by omega), hm]
        obtain ⟨⟨b1, b2⟩, b3, b4, b5⟩ := ans_b ha (hgood m hmm)
        have hq2 : IntKind.i64.wrap (Int.tdiv (bAx a * m.f2) (bAx m.f1)) = Int.tdiv (bAx a * m.f2) (bAx m.f1) := wrapI b4 (by omega)
        have hmid : IntKind.i64.wrap (Int.tdiv (((l.filter (alS a)).length : Int) - 1) 2) = ((((nearS l a).length - 1) / 2 : Nat) : Int) := by
          rw [hnl, Int.tdiv_eq_ediv_of_nonneg (by omega), wrapI (by omega) (by omega)]; omega
        have hmo : okA m.f1.f0 m.f1.f1 m.f1.f2 m.f1.f3 = true := (okS_iff.1 (hgood m hmm)).2.1
        have hba : impl_Appraisal_base.f a.f0 a.f1 a.f2 a.f3 a.f4 = some (bAx a) := iBase _ ha
        have hbm : impl_Appraisal_base.f m.f1.f0 m.f1.f1 m.f1.f2 m.f1.f3 m.f1.f4 = some (bAx m.f1) := iBase _ hmo
        have hus : enc ((nearS l a).getD (((((nearS l a).length - 1) / 2 : Nat) : Int)).toNat z40) = [.int .i64 m.f0, .int .i64 m.f1.f0, .int .i64 m.f1.f1, .int .i64 m.f1.f2, .int .i64 m.f1.f3, .bool m.f1.f4, .int .i64 m.f2] := by
          rw [Int.toNat_natCast, show (nearS l a).getD (((nearS l a).length - 1) / 2) z40 = m from hm]; rfl
        repeat (first
    | (apply gateO; first
      | refine Jl.yd (Y.mv rfl rfl) rfl rfl rfl ?_
      | refine Jl.yd (Y.asg rfl rfl) rfl rfl rfl ?_
      | refine Jl.yd (Y.ext rfl rfl rfl) rfl rfl rfl ?_
      | refine Jl.yd (Y.pickT rfl rfl rfl) rfl rfl rfl ?_
      | refine Jl.yd (Y.pickF rfl rfl rfl) rfl rfl rfl ?_
      | refine Jl.off rfl rfl rfl ?_
      | refine Jl.yd (Y.cmpF rfl rfl rfl rfl (by omega)) rfl rfl rfl ?_
      | refine Jl.yd (Y.cmpT rfl rfl rfl rfl (by omega)) rfl rfl rfl ?_
      | refine Jl.yd (Y.neqB rfl rfl rfl Try.underlying4) rfl rfl rfl ?_
      | refine Jl.yd (Y.cmp rfl rfl rfl rfl) rfl rfl rfl ?_
      | refine Jl.yd (Y.not rfl rfl) rfl rfl rfl ?_
      | refine Jl.yd (Y.arithN rfl rfl rfl rfl (by omega)) rfl rfl rfl ?_
      | refine Jl.yd (Y.arith64 rfl rfl rfl rfl) rfl rfl rfl ?_
      | refine Jl.yd (Y.loadA rfl rfl agg25 (by repeat (first | exact .head _ | refine .tail _ ?_)) (by rfl)) rfl rfl rfl ?_
      | refine Jl.yd (Y.loadA rfl rfl agg40 (by repeat (first | exact .head _ | refine .tail _ ?_)) (by rfl)) rfl rfl rfl ?_
      | refine Jl.yd (Y.load1 rfl rfl sc3 (by repeat (first | exact .head _ | refine .tail _ ?_)) (by rfl)) rfl rfl rfl ?_
      | refine Jl.yd (Y.fld0 rfl rfl fld40_1) rfl rfl rfl ?_
      | refine Jl.yd (Y.fld0 rfl rfl fld40_2) rfl rfl rfl ?_
      | refine Jl.alloc rfl rfl rfl rfl zero40 (fun g => ?_)
      | refine Jl.storeA rfl rfl rfl rfl rfl sz40 (by repeat (first | exact .z | apply SetAt.s)) (by rfl) (by rfl) ?_
      | refine Jl.yd (Y.lenS Try.underlying46 rfl rfl rfl) rfl rfl rfl ?_
      | refine Jl.box (zs := [.int .i64 a.f0, .int .i64 a.f1, .int .i64 a.f2, .int .i64 a.f3, .bool a.f4]) rfl rfl rfl rfl rfl (by rfl) (fun g => ?_)
      | refine Jl.call1 (v := .bool true) rfl rfl rfl rfl en31 rfl (fun w hW => by with_reducible exact impl_AreSales.calls k A0 c0 l true w (hW.fact (p := (fun W => Kd.C k40 W A0 l.length l)) (by repeat (first | exact memH | refine memT ?_))) hc0 hG) ?_
      | refine Jl.call1 (v := .bool true) rfl rfl rfl rfl en16 rfl (fun w hW => by with_reducible exact impl_IsAppraisal.calls a.f0 a.f1 a.f2 a.f3 a.f4 true w hO) ?_
      | refine Jl.callR 0 (fun v => v) rfl rfl rfl rfl en77 rfl (fun w hW => by with_reducible exact impl_Sale_77.calls A0 c0 l l w (hW.fact (p := (fun W => Kd.C k40 W A0 l.length l)) (by repeat (first | exact memH | refine memT ?_))) hc0 (clone_f l hlb)) (fun A1 c1 hl1 => ?_)
      | refine Jl.yd (Y.mkFn1 rfl rfl) rfl rfl rfl ?_
      | refine Jl.callX (ι := Nat × Nat) (fun _ => True) (fun q => .slice (some ⟨q.1, 0, none⟩) (l.filter (alS a)).length q.2) (.row k40 40 0 (.slice A1 l.length c1) l) (fun q => .row k40 40 0 (.slice (some ⟨q.1, 0, none⟩) (l.filter (alS a)).length q.2) (l.filter (alS a))) rfl rfl rfl rfl en76 rfl (by repeat (first | exact .z | apply OutAt.s)) (fun w A hA hB => del_n a l ha hgood hz w A _ g hA (fun W hW => Box_at (hB W hW) (by repeat (first | exact memH | refine memT ?_)))) (fun q _ => ?_)
      | refine Jl.callX (ι := Unit) (fun _ => True) (fun _ => .tuple #[]) (.row k40 40 0 (.slice (some ⟨q.1, 0, none⟩) (l.filter (alS a)).length q.2) (l.filter (alS a))) (fun _ => .row k40 40 0 (.slice (some ⟨q.1, 0, none⟩) (l.filter (alS a)).length q.2) (nearS l a)) rfl rfl rfl rfl en79 rfl (by repeat (first | exact .z | apply OutAt.s)) (fun w A hA hB => (sort_ (l.filter (alS a)) hgf h12 w A q.1 q.2 hA).mono (fun e w' hh => ⟨(), trivial, hh.1, hh.2⟩)) (fun _ _ => ?_)
      | refine Jl.yd (Y.quoN (r := ((((nearS l a).length - 1) / 2 : Nat) : Int)) rfl rfl rfl (by decide) hmid) rfl rfl rfl ?_
      | refine Jl.yd (Y.idx0 rfl rfl rfl el46 (by omega) (by omega)) rfl rfl rfl ?_
      | refine Jl.yd (Y.loadRA z40 rfl rfl agg40 (by repeat (first | exact .head _ | refine .tail _ ?_)) ((((nearS l a).length - 1) / 2 : Nat) : Int) (by omega) (by omega) rfl (us := [.int .i64 m.f0, .int .i64 m.f1.f0, .int .i64 m.f1.f1, .int .i64 m.f1.f2, .int .i64 m.f1.f3, .bool m.f1.f4, .int .i64 m.f2]) rfl (fun w ok cs hM => (k40_openM hM).trans hus)) rfl rfl rfl ?_
      | refine Jl.call1 (v := .int .i64 (bAx a)) rfl rfl rfl rfl en55 rfl (fun w hW => by with_reducible exact impl_Appraisal_base.calls a.f0 a.f1 a.f2 a.f3 a.f4 (bAx a) w hba) ?_
      | refine Jl.call1 (v := .int .i64 (bAx m.f1)) rfl rfl rfl rfl en55 rfl (fun w hW => by with_reducible exact impl_Appraisal_base.calls m.f1.f0 m.f1.f1 m.f1.f2 m.f1.f3 m.f1.f4 (bAx m.f1) w hbm) ?_
      | refine Jl.yd (Y.loadE (u := [.int .i64 m.f1.f0, .int .i64 m.f1.f1, .int .i64 m.f1.f2, .int .i64 m.f1.f3, .bool m.f1.f4]) rfl rfl agg25 (by repeat (first | exact .head _ | refine .tail _ ?_)) (by rfl) (by rfl)) rfl rfl rfl ?_
      | refine Jl.yd (Y.quoN (r := Int.tdiv (bAx a * m.f2) (bAx m.f1)) rfl rfl rfl (by omega) hq2) rfl rfl rfl ?_
      | refine Jl.splitG rfl rfl (fun h => ?_) (fun h => ?_))
    | (apply gateE; first
      | refine Jl.nil (Ej.go ?_ (fun _ _ h => h))
      | (refine Jl.nil (Ej.back (fun _ _ h => h) (by repeat (first | exact .refl | apply DropTo.tail)) ?_); repeat (first | exact trivial | refine ⟨rfl, ?_⟩)))
    | (apply gateC; first
      | refine Cj.block rfl ?_
      | refine Cj.regionD rfl (mkD [0, 1, 2, 3, 4, 6, 8, 9, 10] []) [] [0, 2, 5, 3, 6, 1, 4, 7, 8, 9, 10] mixed (by decide +kernel) ?_
      | refine Cj.ret rfl (Ej.out2 (P := Try.prog) (fn := Try.f44) (R := Rr) (fun _ _ h => h) rfl rfl rfl (fun w' hW => ⟨by rw [hE], hW.below⟩))
      | refine Cj.condF rfl rfl (Cj.skip rfl (Ej.go ?_ (fun _ _ h => h)))
      | (refine Cj.condF rfl rfl (Cj.skip rfl (Ej.back (fun _ _ h => h) (by repeat (first | exact .refl | apply DropTo.tail)) ?_)); repeat (first | exact trivial | refine ⟨rfl, ?_⟩))
      | refine Cj.condF rfl rfl ?_
      | refine Cj.condT rfl rfl ?_
      | refine Cj.exit rfl (Ej.go ?_ (fun _ _ h => h))
      | refine Cj.cond rfl rfl (fun h => ?_) (fun h => ?_)
      | refine Cj.skip rfl (Ej.go ?_ (fun _ _ h => h))
      | (refine Cj.skip rfl (Ej.back (fun _ _ h => h) (by repeat (first | exact .refl | apply DropTo.tail)) ?_); repeat (first | exact trivial | refine ⟨rfl, ?_⟩))
      | refine Cj.seq rfl ?_
      | refine Cj.region rfl ?_))
end EI
end Go.Proofs.Ytembbdhhpblapaa.WK

namespace Go.Proofs.Ytembbdhhpblapaa.WK
open Go Go.RowKit Go.Proofs.Ytembbdhhpblapaa.Q Go.Proofs.Ytembbdhhpblapaa.M Go.Proofs.YtembbdhhpblapaaW.PrintWords Go.Proofs.YtembbdhhpblapaaW.SL
open Go.Proofs.YtembbdhhpblapaaW.Pl (nth nth_get nth_mem)
set_option linter.unusedSimpArgs false
set_option linter.unusedVariables false
set_option maxRecDepth 100000
namespace ES
open Go.Proofs.Ytembbdhhpblapaa.M.EB
open EI (enc encM encO)
theorem agg25 : AggT Try.prog 25 5 := ⟨by kernel_rfl⟩
theorem agg40 : AggT Try.prog 40 7 := ⟨by kernel_rfl⟩
theorem sz40 : SzT Try.prog 40 7 := ⟨by kernel_rfl⟩
theorem sz25 : SzT Try.prog 25 5 := ⟨by kernel_rfl⟩
theorem sc3 : ScT Try.prog 3 := ⟨by kernel_rfl⟩
theorem fld40_1 : FldT Try.prog 40 1 1 := ⟨by kernel_rfl⟩
theorem fld40_2 : FldT Try.prog 40 2 6 := ⟨by kernel_rfl⟩
theorem zero40 : ZeroT Try.prog 40 [.int .i64 0, .int .i64 0, .int .i64 0, .int .i64 0, .int .i64 0, .bool false, .int .i64 0] := ⟨by kernel_rfl⟩
theorem el46 : ElT Try.prog 46 40 7 := ⟨by kernel_rfl⟩
theorem en63 : Ent Try.prog 63 := ⟨enters_of Try.func63 (by kernel_rfl) rfl⟩
theorem en50 : Ent Try.prog 50 := ⟨enters_of Try.func50 (by kernel_rfl) rfl⟩
theorem en52 : Ent Try.prog 52 := ⟨enters_of Try.func52 (by kernel_rfl) rfl⟩
theorem en54 : Ent Try.prog 54 := ⟨enters_of Try.func54 (by kernel_rfl) rfl⟩
theorem mixed : Try.prog.follows .mixedOrders = true := by kernel_rfl
theorem flat40 : Flat k40 enc 7 := ⟨rfl, encM, fun w x cs h => k40_open h, fun _ => rfl, encO, by decide⟩
theorem ap46 : ApT Try.prog 46 40 7 56 := apT_of (z := .agg #[.int .i64 0, .int .i64 0, .int .i64 0, .int .i64 0, .int .i64 0, .bool false, .int .i64 0]) Try.underlying46 (by kernel_rfl) rfl (by decide)
theorem fill7 (a b c d e f g z0 z1 z2 z3 z4 z5 z6 : Value) : Instr.fill (fun i => some (i * 7, 7)) ((Array.range 7).map (fun j => [z0, z1, z2, z3, z4, z5, z6][j % [z0, z1, z2, z3, z4, z5, z6].length]?.getD default)) [(0, .agg #[a, b, c, d, e, f, g])] = some #[a, b, c, d, e, f, g] := by
  have h : (Array.range 7).map (fun j => [z0, z1, z2, z3, z4, z5, z6][j % [z0, z1, z2, z3, z4, z5, z6].length]?.getD default) = #[z0, z1, z2, z3, z4, z5, z6] := by
    apply Array.toList_inj.1
    rw [Array.toList_map, Array.toList_range]
    rfl
  rw [h]
  simp [Instr.fill, Value.cells, Array.zipIdx]
set_option maxHeartbeats 8000000 in
theorem calls (kk : Nat) (A0 : Option Addr) (c0 : Nat) (l : List S40) (a : S25) (w : World) (hr0 : Kd.C k40 w A0 l.length l) (hc0 : l.length ≤ c0) (hlb : l.length ≤ 1048576) (hk : l.length < kk) : Calls Try.prog 43 #[.slice A0 l.length c0, .agg ([.int .i64 a.f0, .int .i64 a.f1, .int .i64 a.f2, .int .i64 a.f3, .bool a.f4] : List Value).toArray] w fun e w' => e = .returned (.tuple #[.int .i64 (estF l a).1, .bool (estF l a).2]) ∧ Below w.heap.size w w' := by
  let Rr : Ending → World → Prop := fun e w' => e = .returned (.tuple #[.int .i64 (estF l a).1, .bool (estF l a).2]) ∧ Below w.heap.size w w'
  have hG := sGood l hlb kk hk
  have hO := l24One a.f0 a.f1 a.f2 a.f3 a.f4
  refine enterW (args := [.slice A0 l.length c0, .agg ([.int .i64 a.f0, .int .i64 a.f1, .int .i64 a.f2, .int .i64 a.f3, .bool a.f4] : List Value).toArray]) [(fun W => Kd.C k40 W A0 l.length l)] (fun p hp W hb => by rw [List.mem_singleton.1 hp]; exact Kd.C_below hr0 hb) Try.func43 rfl rfl ?_
  show Cj Try.prog _ _ _ (bodyPost Try.prog Try.f43 Rr) _ _ _
  cases hg : goodS l with
  | false =>
    rw [hg] at hG
    have hE : estF l a = (0, false) := by unfold estF; rw [hg]; rfl
    repeat (first
    | (apply gateO; first
      | refine Jl.yd (Y.mv rfl rfl) rfl rfl rfl ?_
      | refine Jl.yd (Y.asg rfl rfl) rfl rfl rfl ?_
      | refine Jl.yd (Y.ext rfl rfl rfl) rfl rfl rfl ?_
      | refine Jl.yd (Y.pickT rfl rfl rfl) rfl rfl rfl ?_
      | refine Jl.yd (Y.pickF rfl rfl rfl) rfl rfl rfl ?_
      | refine Jl.off rfl rfl rfl ?_
      | refine Jl.yd (Y.cmpF rfl rfl rfl rfl (by omega)) rfl rfl rfl ?_
      | refine Jl.yd (Y.cmpT rfl rfl rfl rfl (by omega)) rfl rfl rfl ?_
      | refine Jl.yd (Y.neqB rfl rfl rfl Try.underlying4) rfl rfl rfl ?_
      | refine Jl.yd (Y.cmp rfl rfl rfl rfl) rfl rfl rfl ?_
      | refine Jl.yd (Y.not rfl rfl) rfl rfl rfl ?_
      | refine Jl.yd (Y.arithN rfl rfl rfl rfl (by omega)) rfl rfl rfl ?_
      | refine Jl.yd (Y.arith64 rfl rfl rfl rfl) rfl rfl rfl ?_
      | refine Jl.yd (Y.loadA rfl rfl agg25 (by repeat (first | exact .head _ | refine .tail _ ?_)) (by rfl)) rfl rfl rfl ?_
      | refine Jl.box (zs := [.int .i64 a.f0, .int .i64 a.f1, .int .i64 a.f2, .int .i64 a.f3, .bool a.f4]) rfl rfl rfl rfl rfl (by rfl) (fun g => ?_)
      | refine Jl.call1 (v := .bool false) rfl rfl rfl rfl en63 rfl (fun w hW => by with_reducible exact spec_l24Good.calls kk A0 c0 l false w (hW.fact (p := (fun W => Kd.C k40 W A0 l.length l)) (by repeat (first | exact memH | refine memT ?_))) hc0 hG) ?_
      | refine Jl.splitG rfl rfl (fun h => ?_) (fun h => ?_))
    | (apply gateE; first
      | refine Jl.nil (Ej.go ?_ (fun _ _ h => h))
      | (refine Jl.nil (Ej.back (fun _ _ h => h) (by repeat (first | exact .refl | apply DropTo.tail)) ?_); repeat (first | exact trivial | refine ⟨rfl, ?_⟩)))
    | (apply gateC; first
      | refine Cj.block rfl ?_
      | refine Cj.ret rfl (Ej.out2 (P := Try.prog) (fn := Try.f43) (R := Rr) (fun _ _ h => h) rfl rfl rfl (fun w' hW => ⟨by rw [hE], hW.below⟩))
      | refine Cj.condF rfl rfl (Cj.skip rfl (Ej.go ?_ (fun _ _ h => h)))
      | (refine Cj.condF rfl rfl (Cj.skip rfl (Ej.back (fun _ _ h => h) (by repeat (first | exact .refl | apply DropTo.tail)) ?_)); repeat (first | exact trivial | refine ⟨rfl, ?_⟩))
      | refine Cj.condF rfl rfl ?_
      | refine Cj.condT rfl rfl ?_
      | refine Cj.exit rfl (Ej.go ?_ (fun _ _ h => h))
      | refine Cj.cond rfl rfl (fun h => ?_) (fun h => ?_)
      | refine Cj.skip rfl (Ej.go ?_ (fun _ _ h => h))
      | (refine Cj.skip rfl (Ej.back (fun _ _ h => h) (by repeat (first | exact .refl | apply DropTo.tail)) ?_); repeat (first | exact trivial | refine ⟨rfl, ?_⟩))
      | refine Cj.seq rfl ?_
      | refine Cj.region rfl ?_))
  | true =>
    rw [hg] at hG
    cases ha : okAx a with
    | false =>
      rw [show okA a.f0 a.f1 a.f2 a.f3 = false from ha] at hO
      have hE : estF l a = (0, false) := by unfold estF; rw [hg, ha]; rfl
      repeat (first
    | (apply gateO; first
      | refine Jl.yd (Y.mv rfl rfl) rfl rfl rfl ?_
      | refine Jl.yd (Y.asg rfl rfl) rfl rfl rfl ?_
      | refine Jl.yd (Y.ext rfl rfl rfl) rfl rfl rfl ?_
      | refine Jl.yd (Y.pickT rfl rfl rfl) rfl rfl rfl ?_
      | refine Jl.yd (Y.pickF rfl rfl rfl) rfl rfl rfl ?_
      | refine Jl.off rfl rfl rfl ?_
      | refine Jl.yd (Y.cmpF rfl rfl rfl rfl (by omega)) rfl rfl rfl ?_
      | refine Jl.yd (Y.cmpT rfl rfl rfl rfl (by omega)) rfl rfl rfl ?_
      | refine Jl.yd (Y.neqB rfl rfl rfl Try.underlying4) rfl rfl rfl ?_
      | refine Jl.yd (Y.cmp rfl rfl rfl rfl) rfl rfl rfl ?_
      | refine Jl.yd (Y.not rfl rfl) rfl rfl rfl ?_
      | refine Jl.yd (Y.arithN rfl rfl rfl rfl (by omega)) rfl rfl rfl ?_
      | refine Jl.yd (Y.arith64 rfl rfl rfl rfl) rfl rfl rfl ?_
      | refine Jl.yd (Y.loadA rfl rfl agg25 (by repeat (first | exact .head _ | refine .tail _ ?_)) (by rfl)) rfl rfl rfl ?_
      | refine Jl.box (zs := [.int .i64 a.f0, .int .i64 a.f1, .int .i64 a.f2, .int .i64 a.f3, .bool a.f4]) rfl rfl rfl rfl rfl (by rfl) (fun g => ?_)
      | refine Jl.call1 (v := .bool true) rfl rfl rfl rfl en63 rfl (fun w hW => by with_reducible exact spec_l24Good.calls kk A0 c0 l true w (hW.fact (p := (fun W => Kd.C k40 W A0 l.length l)) (by repeat (first | exact memH | refine memT ?_))) hc0 hG) ?_
      | refine Jl.call1 (v := .bool false) rfl rfl rfl rfl en50 rfl (fun w hW => by with_reducible first | exact spec_l24One.calls a.f0 a.f1 a.f2 a.f3 a.f4 false w hO | exact Calls.mono (spec_l24One.calls a.f0 a.f1 a.f2 a.f3 a.f4 false w hO) (fun _ _ hh => ⟨hh.1, hh.2.below⟩)) ?_
      | refine Jl.splitG rfl rfl (fun h => ?_) (fun h => ?_))
    | (apply gateE; first
      | refine Jl.nil (Ej.go ?_ (fun _ _ h => h))
      | (refine Jl.nil (Ej.back (fun _ _ h => h) (by repeat (first | exact .refl | apply DropTo.tail)) ?_); repeat (first | exact trivial | refine ⟨rfl, ?_⟩)))
    | (apply gateC; first
      | refine Cj.block rfl ?_
      | refine Cj.ret rfl (Ej.out2 (P := Try.prog) (fn := Try.f43) (R := Rr) (fun _ _ h => h) rfl rfl rfl (fun w' hW => ⟨by rw [hE], hW.below⟩))
      | refine Cj.condF rfl rfl (Cj.skip rfl (Ej.go ?_ (fun _ _ h => h)))
      | (refine Cj.condF rfl rfl (Cj.skip rfl (Ej.back (fun _ _ h => h) (by repeat (first | exact .refl | apply DropTo.tail)) ?_)); repeat (first | exact trivial | refine ⟨rfl, ?_⟩))
      | refine Cj.condF rfl rfl ?_
      | refine Cj.condT rfl rfl ?_
      | refine Cj.exit rfl (Ej.go ?_ (fun _ _ h => h))
      | refine Cj.cond rfl rfl (fun h => ?_) (fun h => ?_)
      | refine Cj.skip rfl (Ej.go ?_ (fun _ _ h => h))
      | (refine Cj.skip rfl (Ej.back (fun _ _ h => h) (by repeat (first | exact .refl | apply DropTo.tail)) ?_); repeat (first | exact trivial | refine ⟨rfl, ?_⟩))
      | refine Cj.seq rfl ?_
      | refine Cj.region rfl ?_))
    | true =>
      rw [show okA a.f0 a.f1 a.f2 a.f3 = true from ha] at hO
      have hgood : ∀ x, x ∈ l → okSx x = true := fun x hx => good_mem hg hx
      have hl10 := (goodS_at hg).1
      repeat (first
    | (apply gateO; first
      | refine Jl.yd (Y.mv rfl rfl) rfl rfl rfl ?_
      | refine Jl.yd (Y.asg rfl rfl) rfl rfl rfl ?_
      | refine Jl.yd (Y.ext rfl rfl rfl) rfl rfl rfl ?_
      | refine Jl.yd (Y.pickT rfl rfl rfl) rfl rfl rfl ?_
      | refine Jl.yd (Y.pickF rfl rfl rfl) rfl rfl rfl ?_
      | refine Jl.off rfl rfl rfl ?_
      | refine Jl.yd (Y.cmpF rfl rfl rfl rfl (by omega)) rfl rfl rfl ?_
      | refine Jl.yd (Y.cmpT rfl rfl rfl rfl (by omega)) rfl rfl rfl ?_
      | refine Jl.yd (Y.neqB rfl rfl rfl Try.underlying4) rfl rfl rfl ?_
      | refine Jl.yd (Y.cmp rfl rfl rfl rfl) rfl rfl rfl ?_
      | refine Jl.yd (Y.not rfl rfl) rfl rfl rfl ?_
      | refine Jl.yd (Y.arithN rfl rfl rfl rfl (by omega)) rfl rfl rfl ?_
      | refine Jl.yd (Y.arith64 rfl rfl rfl rfl) rfl rfl rfl ?_
      | refine Jl.yd (Y.loadA rfl rfl agg25 (by repeat (first | exact .head _ | refine .tail _ ?_)) (by rfl)) rfl rfl rfl ?_
      | refine Jl.yd (Y.lenS Try.underlying46 rfl rfl rfl) rfl rfl rfl ?_
      | refine Jl.box (zs := [.int .i64 a.f0, .int .i64 a.f1, .int .i64 a.f2, .int .i64 a.f3, .bool a.f4]) rfl rfl rfl rfl rfl (by rfl) (fun g => ?_)
      | refine Jl.call1 (v := .bool true) rfl rfl rfl rfl en63 rfl (fun w hW => by with_reducible exact spec_l24Good.calls kk A0 c0 l true w (hW.fact (p := (fun W => Kd.C k40 W A0 l.length l)) (by repeat (first | exact memH | refine memT ?_))) hc0 hG) ?_
      | refine Jl.call1 (v := .bool true) rfl rfl rfl rfl en50 rfl (fun w hW => by with_reducible first | exact spec_l24One.calls a.f0 a.f1 a.f2 a.f3 a.f4 true w hO | exact Calls.mono (spec_l24One.calls a.f0 a.f1 a.f2 a.f3 a.f4 true w hO) (fun _ _ hh => ⟨hh.1, hh.2.below⟩)) ?_
      | refine Jl.lit0 k40 rfl rfl rfl rfl el46 (fun g0 => ?_)
      | refine Jl.splitG rfl rfl (fun h => ?_) (fun h => ?_))
    | (apply gateE; first
      | refine Jl.nil (Ej.go ?_ (fun _ _ h => h))
      | (refine Jl.nil (Ej.back (fun _ _ h => h) (by repeat (first | exact .refl | apply DropTo.tail)) ?_); repeat (first | exact trivial | refine ⟨rfl, ?_⟩)))
    | (apply gateC; first
      | refine Cj.block rfl ?_
      | refine Cj.condF rfl rfl (Cj.skip rfl (Ej.go ?_ (fun _ _ h => h)))
      | (refine Cj.condF rfl rfl (Cj.skip rfl (Ej.back (fun _ _ h => h) (by repeat (first | exact .refl | apply DropTo.tail)) ?_)); repeat (first | exact trivial | refine ⟨rfl, ?_⟩))
      | refine Cj.condF rfl rfl ?_
      | refine Cj.condT rfl rfl ?_
      | refine Cj.exit rfl (Ej.go ?_ (fun _ _ h => h))
      | refine Cj.cond rfl rfl (fun h => ?_) (fun h => ?_)
      | refine Cj.skip rfl (Ej.go ?_ (fun _ _ h => h))
      | (refine Cj.skip rfl (Ej.back (fun _ _ h => h) (by repeat (first | exact .refl | apply DropTo.tail)) ?_); repeat (first | exact trivial | refine ⟨rfl, ?_⟩))
      | refine Cj.seq rfl ?_
      | refine Cj.region rfl ?_))
      refine Cj.loopP (ι := Nat × Option Addr × Nat × List S40) (fun q => q.1 ≤ l.length ∧ q.2.2.2 = nearS (l.take q.1) a ∧ q.2.2.2.length ≤ q.2.2.1) (fun q => [(0, .slice A0 l.length c0), (3, .pointer (some ⟨g, 0, none⟩)), (4, .int .i64 0), (5, .bool false), (6, .slice q.2.1 (q.2.2.2 : List S40).length q.2.2.1), (7, .int .i64 (q.1 : Int))]) (fun q => [.row k40 40 0 (.slice q.2.1 (q.2.2.2 : List S40).length q.2.2.1) q.2.2.2, .box g 25 [.int .i64 a.f0, .int .i64 a.f1, .int .i64 a.f2, .int .i64 a.f3, .bool a.f4]]) (fun _ => [(fun W => Kd.C k40 W A0 l.length l)]) (fun q => l.length - q.1) rfl (0, some ⟨g0, 0, none⟩, 0, []) ⟨Nat.zero_le _, rfl, Nat.zero_le _⟩ ⟨rfl, rfl, rfl, rfl, rfl, rfl, trivial⟩ (by repeat (first | exact .nil | refine Pick.cons (by repeat (first | exact .z | apply OutAt.s)) ?_)) (fun p hp => hp) (fun q hq => ?_)
      obtain ⟨i, A, c, s⟩ := q
      dsimp only at hq ⊢
      obtain ⟨hi, hs, hsc⟩ := hq
      have hsl : s.length ≤ 10 := by
        have := near_len (l.take i) a
        rw [List.length_take] at this
        rw [hs]; omega
      by_cases hlt : i < l.length
      · obtain ⟨ad0, rfl⟩ : ∃ ad, A0 = some ad := by
          obtain ⟨ad, e, _⟩ := hr0.2.2 (by omega)
          exact ⟨ad, e⟩
        obtain ⟨x, hx⟩ : ∃ x, l[i]? = some x := ⟨_, List.getElem?_eq_getElem hlt⟩
        have hxm := List.mem_of_getElem? hx
        have hok := hgood x hxm
        have hxo : okA x.f1.f0 x.f1.f1 x.f1.f2 x.f1.f3 = true := (okS_iff.1 hok).2.1
        have hus : enc (l.getD ((i : Int)).toNat z40) = [.int .i64 x.f0, .int .i64 x.f1.f0, .int .i64 x.f1.f1, .int .i64 x.f1.f2, .int .i64 x.f1.f3, .bool x.f1.f4, .int .i64 x.f2] := by
          rw [Int.toNat_natCast, List.getD_eq_getElem?_getD, hx]; rfl
        have hbx : spec_l24Base.f x.f1.f0 x.f1.f1 x.f1.f2 x.f1.f3 x.f1.f4 = some (bAx x.f1) := sBase _ hxo
        have htk : l.take (i + 1) = l.take i ++ [x] := by rw [List.take_add_one, hx]; rfl
        have hal : spec_l24Alike.f x.f1.f0 x.f1.f1 x.f1.f2 x.f1.f3 x.f1.f4 a.f0 a.f1 a.f2 a.f3 a.f4 = some (alS a x) := sAlike _ _ hxo ha
        cases hA : alS a x with
        | false =>
          rw [hA] at hal
          have hE : s = nearS (l.take (i + 1)) a := by rw [htk, near_snoc, hA, if_neg (by decide), hs]
          repeat (first
    | (apply gateO; first
      | refine Jl.yd (Y.mv rfl rfl) rfl rfl rfl ?_
      | refine Jl.yd (Y.asg rfl rfl) rfl rfl rfl ?_
      | refine Jl.yd (Y.ext rfl rfl rfl) rfl rfl rfl ?_
      | refine Jl.yd (Y.pickT rfl rfl rfl) rfl rfl rfl ?_
      | refine Jl.yd (Y.pickF rfl rfl rfl) rfl rfl rfl ?_
      | refine Jl.off rfl rfl rfl ?_
      | refine Jl.yd (Y.cmpF rfl rfl rfl rfl (by omega)) rfl rfl rfl ?_
      | refine Jl.yd (Y.cmpT rfl rfl rfl rfl (by omega)) rfl rfl rfl ?_
      | refine Jl.yd (Y.neqB rfl rfl rfl Try.underlying4) rfl rfl rfl ?_
      | refine Jl.yd (Y.cmp rfl rfl rfl rfl) rfl rfl rfl ?_
      | refine Jl.yd (Y.not rfl rfl) rfl rfl rfl ?_
      | refine Jl.yd (Y.arithN rfl rfl rfl rfl (by omega)) rfl rfl rfl ?_
      | refine Jl.yd (Y.arith64 rfl rfl rfl rfl) rfl rfl rfl ?_
      | refine Jl.yd (Y.lenS Try.underlying46 rfl rfl rfl) rfl rfl rfl ?_
      | refine Jl.yd (Y.idx rfl rfl rfl el46 (by omega) (by omega)) rfl rfl rfl ?_
      | refine Jl.yd (Y.loadKS z40 [.int .i64 x.f0, .int .i64 x.f1.f0, .int .i64 x.f1.f1, .int .i64 x.f1.f2, .int .i64 x.f1.f3, .bool x.f1.f4, .int .i64 x.f2] [.int .i64 x.f1.f0, .int .i64 x.f1.f1, .int .i64 x.f1.f2, .int .i64 x.f1.f3, .bool x.f1.f4] 1 rfl rfl agg25 (by repeat (first | exact .head _ | refine .tail _ ?_)) ((i : Int)) (by omega) (by omega) rfl (fun w cs h => (k40_open h).trans hus) rfl rfl) rfl rfl rfl ?_
      | refine Jl.yd (Y.loadA rfl rfl agg25 (by repeat (first | exact .head _ | refine .tail _ ?_)) (by rfl)) rfl rfl rfl ?_
      | refine Jl.yd (Y.fld rfl rfl fld40_1) rfl rfl rfl ?_
      | refine Jl.yd (Y.fld rfl rfl fld40_2) rfl rfl rfl ?_
      | refine Jl.call1 (v := .bool false) rfl rfl rfl rfl en52 rfl (fun w hW => by with_reducible first | exact spec_l24Alike.calls x.f1.f0 x.f1.f1 x.f1.f2 x.f1.f3 x.f1.f4 a.f0 a.f1 a.f2 a.f3 a.f4 false w hal | exact Calls.mono (spec_l24Alike.calls x.f1.f0 x.f1.f1 x.f1.f2 x.f1.f3 x.f1.f4 a.f0 a.f1 a.f2 a.f3 a.f4 false w hal) (fun _ _ hh => ⟨hh.1, hh.2.below⟩)) ?_
      | refine Jl.splitG rfl rfl (fun h => ?_) (fun h => ?_))
    | (apply gateE; first
      | refine Jl.nil (Ej.go ?_ (fun _ _ h => h))
      | (refine Jl.nil (Ej.back (fun _ _ h => h) (by repeat (first | exact .refl | apply DropTo.tail)) ?_); repeat (first | exact trivial | refine ⟨rfl, ?_⟩)))
    | (apply gateC; first
      | refine Cj.regionD rfl (mkD [0, 1, 2, 3, 4, 5, 7] []) [] [0, 1, 2, 3, 4, 5, 6, 7] mixed (by decide +kernel) ?_
      | refine Cj.block rfl ?_
      | refine Cj.condF rfl rfl (Cj.skip rfl (Ej.go ?_ (fun _ _ h => h)))
      | (refine Cj.condF rfl rfl (Cj.skip rfl (Ej.back (fun _ _ h => h) (by repeat (first | exact .refl | apply DropTo.tail)) ?_)); repeat (first | exact trivial | refine ⟨rfl, ?_⟩))
      | refine Cj.condF rfl rfl ?_
      | refine Cj.condT rfl rfl ?_
      | refine Cj.exit rfl (Ej.go ?_ (fun _ _ h => h))
      | refine Cj.cond rfl rfl (fun h => ?_) (fun h => ?_)
      | refine Cj.skip rfl (Ej.go ?_ (fun _ _ h => h))
      | (refine Cj.skip rfl (Ej.back (fun _ _ h => h) (by repeat (first | exact .refl | apply DropTo.tail)) ?_); repeat (first | exact trivial | refine ⟨rfl, ?_⟩))
      | refine Cj.seq rfl ?_
      | refine Cj.region rfl ?_))
          refine Jl.nil (Ej.cutP (ι := Nat × Option Addr × Nat × List S40) _ _ _ _ (fun _ _ h => h) (i + 1, A, c, s) ⟨⟨by omega, hE, hsc⟩, by dsimp only; omega⟩ ⟨rfl, rfl, rfl, rfl, rfl, rfl, trivial⟩ (by repeat (first | exact .nil | refine Pick.cons (by repeat (first | exact .z | apply OutAt.s)) ?_)) (fun p hp => hp))
        | true =>
          rw [hA] at hal
          have hE : insR ltS s x = nearS (l.take (i + 1)) a := by rw [htk, near_snoc, hA, if_pos rfl, hs]
          refine Cj.ws (ι := Unit) (fun _ => s.length ≠ 0 → ∃ ad, A = some ad) (fun _ => [.box g 25 [.int .i64 a.f0, .int .i64 a.f1, .int .i64 a.f2, .int .i64 a.f3, .bool a.f4]]) (fun _ => [(fun W => Kd.C k40 W A s.length s), (fun W => Kd.C k40 W (some ad0) l.length l)]) (fun w' hW => ⟨(), (fun h0 => by
            obtain ⟨ad, e, _⟩ := (hW.rowC memH).2.2 (by omega)
            exact ⟨ad, e⟩), (hW.freeze (n := 0) rfl (p := (fun W => Kd.C k40 W A s.length s)) (fun W A' hA' => (Kd.R_reads' hA'.1).2.2))⟩) (fun _ hAn => ?_)
          repeat (first
    | (apply gateO; first
      | refine Jl.yd (Y.mv rfl rfl) rfl rfl rfl ?_
      | refine Jl.yd (Y.asg rfl rfl) rfl rfl rfl ?_
      | refine Jl.yd (Y.ext rfl rfl rfl) rfl rfl rfl ?_
      | refine Jl.yd (Y.pickT rfl rfl rfl) rfl rfl rfl ?_
      | refine Jl.yd (Y.pickF rfl rfl rfl) rfl rfl rfl ?_
      | refine Jl.off rfl rfl rfl ?_
      | refine Jl.yd (Y.cmpF rfl rfl rfl rfl (by omega)) rfl rfl rfl ?_
      | refine Jl.yd (Y.cmpT rfl rfl rfl rfl (by omega)) rfl rfl rfl ?_
      | refine Jl.yd (Y.neqB rfl rfl rfl Try.underlying4) rfl rfl rfl ?_
      | refine Jl.yd (Y.cmp rfl rfl rfl rfl) rfl rfl rfl ?_
      | refine Jl.yd (Y.not rfl rfl) rfl rfl rfl ?_
      | refine Jl.yd (Y.arithN rfl rfl rfl rfl (by omega)) rfl rfl rfl ?_
      | refine Jl.yd (Y.arith64 rfl rfl rfl rfl) rfl rfl rfl ?_
      | refine Jl.yd (Y.lenS Try.underlying46 rfl rfl rfl) rfl rfl rfl ?_
      | refine Jl.yd (Y.idx rfl rfl rfl el46 (by omega) (by omega)) rfl rfl rfl ?_
      | refine Jl.yd (Y.loadKS z40 [.int .i64 x.f0, .int .i64 x.f1.f0, .int .i64 x.f1.f1, .int .i64 x.f1.f2, .int .i64 x.f1.f3, .bool x.f1.f4, .int .i64 x.f2] [.int .i64 x.f1.f0, .int .i64 x.f1.f1, .int .i64 x.f1.f2, .int .i64 x.f1.f3, .bool x.f1.f4] 1 rfl rfl agg25 (by repeat (first | exact .head _ | refine .tail _ ?_)) ((i : Int)) (by omega) (by omega) rfl (fun w cs h => (k40_open h).trans hus) rfl rfl) rfl rfl rfl ?_
      | refine Jl.yd (Y.loadA rfl rfl agg25 (by repeat (first | exact .head _ | refine .tail _ ?_)) (by rfl)) rfl rfl rfl ?_
      | refine Jl.yd (Y.fld rfl rfl fld40_1) rfl rfl rfl ?_
      | refine Jl.yd (Y.fld rfl rfl fld40_2) rfl rfl rfl ?_
      | refine Jl.call1 (v := .bool true) rfl rfl rfl rfl en52 rfl (fun w hW => by with_reducible first | exact spec_l24Alike.calls x.f1.f0 x.f1.f1 x.f1.f2 x.f1.f3 x.f1.f4 a.f0 a.f1 a.f2 a.f3 a.f4 true w hal | exact Calls.mono (spec_l24Alike.calls x.f1.f0 x.f1.f1 x.f1.f2 x.f1.f3 x.f1.f4 a.f0 a.f1 a.f2 a.f3 a.f4 true w hal) (fun _ _ hh => ⟨hh.1, hh.2.below⟩)) ?_
      | refine Jl.splitG rfl rfl (fun h => ?_) (fun h => ?_))
    | (apply gateE; first
      | refine Jl.nil (Ej.go ?_ (fun _ _ h => h))
      | (refine Jl.nil (Ej.back (fun _ _ h => h) (by repeat (first | exact .refl | apply DropTo.tail)) ?_); repeat (first | exact trivial | refine ⟨rfl, ?_⟩)))
    | (apply gateC; first
      | refine Cj.regionD rfl (mkD [0, 1, 2, 3, 4, 5, 7] []) [] [0, 1, 2, 3, 4, 5, 6, 7] mixed (by decide +kernel) ?_
      | refine Cj.block rfl ?_
      | refine Cj.condF rfl rfl (Cj.skip rfl (Ej.go ?_ (fun _ _ h => h)))
      | (refine Cj.condF rfl rfl (Cj.skip rfl (Ej.back (fun _ _ h => h) (by repeat (first | exact .refl | apply DropTo.tail)) ?_)); repeat (first | exact trivial | refine ⟨rfl, ?_⟩))
      | refine Cj.condF rfl rfl ?_
      | refine Cj.condT rfl rfl ?_
      | refine Cj.exit rfl (Ej.go ?_ (fun _ _ h => h))
      | refine Cj.cond rfl rfl (fun h => ?_) (fun h => ?_)
      | refine Cj.skip rfl (Ej.go ?_ (fun _ _ h => h))
      | (refine Cj.skip rfl (Ej.back (fun _ _ h => h) (by repeat (first | exact .refl | apply DropTo.tail)) ?_); repeat (first | exact trivial | refine ⟨rfl, ?_⟩))
      | refine Cj.seq rfl ?_
      | refine Cj.region rfl ?_))
          refine Cj.loopP (ι := Nat) (fun q => q ≤ s.length ∧ goI ltS x (s.take q).reverse (s.drop q) = insR ltS s x) (fun q => [(0, .slice (some ad0) l.length c0), (3, .pointer (some ⟨g, 0, none⟩)), (4, .int .i64 0), (5, .bool false), (6, .slice A (s : List S40).length c), (7, .int .i64 (i : Int)), (8, .int .i64 (q : Int))]) (fun _ => [.box g 25 [.int .i64 a.f0, .int .i64 a.f1, .int .i64 a.f2, .int .i64 a.f3, .bool a.f4]]) (fun _ => [(fun W => Kd.C k40 W A s.length s), (fun W => Kd.C k40 W (some ad0) l.length l)]) (fun q => q) rfl s.length ⟨Nat.le_refl _, by rw [List.take_length, List.drop_length]; rfl⟩ ⟨rfl, rfl, rfl, rfl, rfl, rfl, rfl, trivial⟩ (by repeat (first | exact .nil | refine Pick.cons (by repeat (first | exact .z | apply OutAt.s)) ?_)) (fun p hp => hp) (fun k hk2 => ?_)
          try dsimp only at hk2 ⊢
          obtain ⟨hks, hgo⟩ := hk2
          rcases Nat.eq_zero_or_pos k with hk0 | hk0
          · have fin : (([] ++ s.take k) ++ [x]) ++ s.drop k = insR ltS s x := by
              rw [← hgo, hk0]; simp [goI]
            refine Cj.ws (ι := Unit) (fun _ => True) (fun _ => [.box g 25 [.int .i64 a.f0, .int .i64 a.f1, .int .i64 a.f2, .int .i64 a.f3, .bool a.f4]]) (fun _ => [(fun W => Kd.C k40 W A (s.take k).length (s.take k)), (fun W => Kd.C k40 W (if c = ((k : Int)).toNat then A else A.map (·.add (((k : Int)).toNat * 7))) (s.drop k).length (s.drop k)), (fun W => Kd.C k40 W A s.length s), (fun W => Kd.C k40 W (some ad0) l.length l)]) (fun w' hW => ⟨(), trivial, ((hW.both (p := (fun W => Kd.C k40 W A s.length s)) (q := (fun W => Kd.C k40 W A s.length s)) (r := (fun W => Kd.C k40 W (if c = ((k : Int)).toNat then A else A.map (·.add (((k : Int)).toNat * 7))) (s.drop k).length (s.drop k))) memH memH (fun W h _ => by rw [Int.toNat_natCast]; exact Kd.C_drop h hks hsc)).both (p := (fun W => Kd.C k40 W A s.length s)) (q := (fun W => Kd.C k40 W A s.length s)) (r := (fun W => Kd.C k40 W A (s.take k).length (s.take k))) (memT memH) (memT memH) (fun W h _ => Kd.C_take h hks))⟩) (fun _ _ => ?_)
            repeat (first
    | (apply gateO; first
      | refine Jl.yd (Y.mv rfl rfl) rfl rfl rfl ?_
      | refine Jl.yd (Y.asg rfl rfl) rfl rfl rfl ?_
      | refine Jl.yd (Y.ext rfl rfl rfl) rfl rfl rfl ?_
      | refine Jl.yd (Y.pickT rfl rfl rfl) rfl rfl rfl ?_
      | refine Jl.yd (Y.pickF rfl rfl rfl) rfl rfl rfl ?_
      | refine Jl.off rfl rfl rfl ?_
      | refine Jl.yd (Y.cmpF rfl rfl rfl rfl (by omega)) rfl rfl rfl ?_
      | refine Jl.yd (Y.cmpT rfl rfl rfl rfl (by omega)) rfl rfl rfl ?_
      | refine Jl.yd (Y.neqB rfl rfl rfl Try.underlying4) rfl rfl rfl ?_
      | refine Jl.yd (Y.cmp rfl rfl rfl rfl) rfl rfl rfl ?_
      | refine Jl.yd (Y.not rfl rfl) rfl rfl rfl ?_
      | refine Jl.yd (Y.arithN rfl rfl rfl rfl (by omega)) rfl rfl rfl ?_
      | refine Jl.yd (Y.arith64 rfl rfl rfl rfl) rfl rfl rfl ?_
      | refine Jl.yd (Y.lenS Try.underlying46 rfl rfl rfl) rfl rfl rfl ?_
      | refine Jl.yd (Y.idx rfl rfl rfl el46 (by omega) (by omega)) rfl rfl rfl ?_
      | refine Jl.yd (Y.loadK1 z40 [.int .i64 y.f0, .int .i64 y.f1.f0, .int .i64 y.f1.f1, .int .i64 y.f1.f2, .int .i64 y.f1.f3, .bool y.f1.f4, .int .i64 y.f2] rfl rfl sc3 (by repeat (first | exact .head _ | refine .tail _ ?_)) (((k : Int) - 1)) 6 (by omega) (by omega) (by rfl) (fun w cs h => (k40_open h).trans huy) rfl) rfl rfl rfl ?_
      | refine Jl.yd (Y.loadKS z40 [.int .i64 y.f0, .int .i64 y.f1.f0, .int .i64 y.f1.f1, .int .i64 y.f1.f2, .int .i64 y.f1.f3, .bool y.f1.f4, .int .i64 y.f2] [.int .i64 y.f1.f0, .int .i64 y.f1.f1, .int .i64 y.f1.f2, .int .i64 y.f1.f3, .bool y.f1.f4] 1 rfl rfl agg25 (by repeat (first | exact .head _ | refine .tail _ ?_)) (((k : Int) - 1)) (by omega) (by omega) rfl (fun w cs h => (k40_open h).trans huy) rfl rfl) rfl rfl rfl ?_
      | refine Jl.yd (Y.loadK1 z40 [.int .i64 x.f0, .int .i64 x.f1.f0, .int .i64 x.f1.f1, .int .i64 x.f1.f2, .int .i64 x.f1.f3, .bool x.f1.f4, .int .i64 x.f2] rfl rfl sc3 (by repeat (first | exact .head _ | refine .tail _ ?_)) ((i : Int)) 6 (by omega) (by omega) (by rfl) (fun w cs h => (k40_open h).trans hus) rfl) rfl rfl rfl ?_
      | refine Jl.yd (Y.loadKS z40 [.int .i64 x.f0, .int .i64 x.f1.f0, .int .i64 x.f1.f1, .int .i64 x.f1.f2, .int .i64 x.f1.f3, .bool x.f1.f4, .int .i64 x.f2] [.int .i64 x.f1.f0, .int .i64 x.f1.f1, .int .i64 x.f1.f2, .int .i64 x.f1.f3, .bool x.f1.f4] 1 rfl rfl agg25 (by repeat (first | exact .head _ | refine .tail _ ?_)) ((i : Int)) (by omega) (by omega) rfl (fun w cs h => (k40_open h).trans hus) rfl rfl) rfl rfl rfl ?_
      | refine Jl.call1 (v := .int .i64 (bAx x.f1)) rfl rfl rfl rfl en54 rfl (fun w hW => by with_reducible first | exact spec_l24Base.calls x.f1.f0 x.f1.f1 x.f1.f2 x.f1.f3 x.f1.f4 (bAx x.f1) w hbx | exact Calls.mono (spec_l24Base.calls x.f1.f0 x.f1.f1 x.f1.f2 x.f1.f3 x.f1.f4 (bAx x.f1) w hbx) (fun _ _ hh => ⟨hh.1, hh.2.below⟩)) ?_
      | refine Jl.call1 (v := .int .i64 (bAx y.f1)) rfl rfl rfl rfl en54 rfl (fun w hW => by with_reducible first | exact spec_l24Base.calls y.f1.f0 y.f1.f1 y.f1.f2 y.f1.f3 y.f1.f4 (bAx y.f1) w hby | exact Calls.mono (spec_l24Base.calls y.f1.f0 y.f1.f1 y.f1.f2 y.f1.f3 y.f1.f4 (bAx y.f1) w hby) (fun _ _ hh => ⟨hh.1, hh.2.below⟩)) ?_
      | refine Jl.yd (Y.fld rfl rfl fld40_1) rfl rfl rfl ?_
      | refine Jl.yd (Y.fld rfl rfl fld40_2) rfl rfl rfl ?_
      | refine Jl.splitG rfl rfl (fun h => ?_) (fun h => ?_))
    | (apply gateE; first
      | refine Jl.nil (Ej.go ?_ (fun _ _ h => h))
      | (refine Jl.nil (Ej.back (fun _ _ h => h) (by repeat (first | exact .refl | apply DropTo.tail)) ?_); repeat (first | exact trivial | refine ⟨rfl, ?_⟩)))
    | (apply gateC; first
      | refine Cj.block rfl ?_
      | refine Cj.regionD rfl (mkD [0, 1, 2, 3, 4, 5, 6, 7, 8, 9, 10, 11, 12, 13, 14, 15, 16, 17, 18, 19, 20, 21, 22, 23, 24, 26, 28, 29, 30] []) [] [0, 1, 2, 3, 4, 5, 6, 7, 8, 9, 10, 11, 12, 13, 16, 17, 18, 19, 20, 21, 22, 23, 24, 25, 26, 14, 15, 27, 28, 29, 30] mixed (by decide +kernel) ?_
      | refine Cj.condF rfl rfl (Cj.skip rfl (Ej.go ?_ (fun _ _ h => h)))
      | (refine Cj.condF rfl rfl (Cj.skip rfl (Ej.back (fun _ _ h => h) (by repeat (first | exact .refl | apply DropTo.tail)) ?_)); repeat (first | exact trivial | refine ⟨rfl, ?_⟩))
      | refine Cj.condF rfl rfl ?_
      | refine Cj.condT rfl rfl ?_
      | refine Cj.exit rfl (Ej.go ?_ (fun _ _ h => h))
      | refine Cj.cond rfl rfl (fun h => ?_) (fun h => ?_)
      | refine Cj.skip rfl (Ej.go ?_ (fun _ _ h => h))
      | (refine Cj.skip rfl (Ej.back (fun _ _ h => h) (by repeat (first | exact .refl | apply DropTo.tail)) ?_); repeat (first | exact trivial | refine ⟨rfl, ?_⟩))
      | refine Cj.seq rfl ?_
      | refine Cj.region rfl ?_))
            refine Cj.regionJ rfl [0, 4, 8, 9, 10, 14] mixed ?_
            refine Jw.take 1 rfl (by decide +kernel) (by intro c a d v w h; cases d <;> exact h) (fun w => Y.mv rfl rfl) rfl rfl rfl ?_
            refine Jw.take 2 rfl (by decide +kernel) (by intro c a d v w h; cases d <;> exact h) (fun w => Y.mv rfl rfl) rfl rfl rfl ?_
            refine Jw.take 5 rfl (by decide +kernel) (by intro c a d v w h; cases d <;> exact h) (fun w => Y.mv rfl rfl) rfl rfl rfl ?_
            refine Jw.take 6 rfl (by decide +kernel) (by intro c a d v w h; cases d <;> exact h) (fun w => Y.mv rfl rfl) rfl rfl rfl ?_
            refine Jw.take 11 rfl (by decide +kernel) (by intro c a d v w h; cases d <;> exact h) (fun w => Y.mv rfl rfl) rfl rfl rfl ?_
            refine Jw.take 12 rfl (by decide +kernel) (by intro c a d v w h; cases d <;> exact h) (fun w => Y.mv rfl rfl) rfl rfl rfl ?_
            refine Jw.take 3 rfl (by decide +kernel) (by intro c a d v w h; cases d <;> exact h) (fun w => Y.sliTo rfl rfl rfl el46 (by omega) (by omega)) rfl rfl rfl ?_
            refine Jw.take 7 rfl (by decide +kernel) (by intro c a d v w h; cases d <;> exact h) (fun w => Y.idx rfl rfl rfl el46 (by omega) (by omega)) rfl rfl rfl ?_
            refine Jw.take 13 rfl (by decide +kernel) (by intro c a d v w h; cases d <;> exact h) (fun w => Y.sliFrom rfl rfl rfl el46 (by omega) (by omega)) rfl rfl rfl ?_
            refine Jw.br2 (mkD [] [0]) 0 8 rfl rfl (by decide +kernel) rfl rfl ?_ ?_
            · skip
              refine Jl.lit0 k40 rfl rfl rfl rfl el46 (fun g0 => ?_)
              refine Jl.jw ?_
              refine Jw.br2 (mkD [] [0]) 4 8 rfl rfl (by decide +kernel) rfl rfl ?_ ?_
              · skip
                refine Jl.appF (enc := enc) flat40 (xs := []) (zs := s.take k) rfl rfl rfl rfl rfl rfl ap46 (by rw [List.length_take]; omega) (by repeat (first | exact memH | refine memT ?_)) (by repeat (first | exact .z | apply OutAt.s)) (by (try simp only [List.length_append, List.length_cons, List.length_nil, List.length_take, List.length_drop]); omega) (by (try simp only [List.length_append, List.length_cons, List.length_nil, List.length_take, List.length_drop]); omega) (fun A4 c4 h4 => ?_)
                refine Jl.jw ?_
                refine Jw.step (mkD [] [0]) 8 rfl (by decide +kernel) rfl rfl ?_
                refine Jl.yd (Y.loadK z40 [.int .i64 x.f0, .int .i64 x.f1.f0, .int .i64 x.f1.f1, .int .i64 x.f1.f2, .int .i64 x.f1.f3, .bool x.f1.f4, .int .i64 x.f2] rfl rfl agg40 (by repeat (first | exact .head _ | refine .tail _ ?_)) ((i : Int)) (by omega) (by omega) (by rfl) (fun w cs h => (k40_open h).trans hus) (by rfl)) rfl rfl rfl ?_
                refine Jl.jw ?_
                refine Jw.step (mkD [] [0]) 9 rfl (by decide +kernel) rfl rfl ?_
                refine Jl.litS (us := [.int .i64 x.f0, .int .i64 x.f1.f0, .int .i64 x.f1.f1, .int .i64 x.f1.f2, .int .i64 x.f1.f3, .bool x.f1.f4, .int .i64 x.f2]) (zs := [.int .i64 0, .int .i64 0, .int .i64 0, .int .i64 0, .int .i64 0, .bool false, .int .i64 0]) rfl rfl rfl rfl rfl el46 zero40 rfl rfl (fill7 _ _ _ _ _ _ _ _ _ _ _ _ _ _) (fun g9 => ?_)
                refine Jl.jw ?_
                refine Jw.step (mkD [] [0]) 10 rfl (by decide +kernel) rfl rfl ?_
                refine Jl.app (dk := k40) (xs := [] ++ s.take k) x (fun _ => False) rfl rfl rfl rfl rfl rfl ap46 (by repeat (first | exact .head _ | refine .tail _ ?_)) rfl (fun w => k40_mkM w 0 (fun _ => False) x) (encO x) (by repeat (first | exact .z | apply OutAt.s)) (by (try simp only [List.length_append, List.length_cons, List.length_nil, List.length_take, List.length_drop]); omega) (by (try simp only [List.length_append, List.length_cons, List.length_nil, List.length_take, List.length_drop]); omega) (fun A10 c10 h10 => ?_)
                refine Jl.jw ?_
                refine Jw.step (mkD [] [0]) 14 rfl (by decide +kernel) rfl rfl ?_
                refine Jl.appF (enc := enc) flat40 (xs := ([] ++ s.take k) ++ [x]) (zs := s.drop k) rfl rfl rfl rfl rfl rfl ap46 (by rw [List.length_drop]; omega) (by repeat (first | exact memH | refine memT ?_)) (by repeat (first | exact .z | apply OutAt.s)) (by (try simp only [List.length_append, List.length_cons, List.length_nil, List.length_take, List.length_drop]); omega) (by (try simp only [List.length_append, List.length_cons, List.length_nil, List.length_take, List.length_drop]); omega) (fun A14 c14 h14 => ?_)
                refine Jl.jw ?_
                refine Jw.take 15 rfl (by decide +kernel) (by intro c a d v w h; cases d <;> exact h) (fun w => Y.asg rfl rfl) rfl rfl rfl ?_
                refine Jw.done (by decide +kernel) (Ej.go ?_ (fun _ _ h => h))
                repeat (first
                    | (apply gateO; first
                      | refine Jl.yd (Y.mv rfl rfl) rfl rfl rfl ?_
                      | refine Jl.yd (Y.asg rfl rfl) rfl rfl rfl ?_
                      | refine Jl.yd (Y.ext rfl rfl rfl) rfl rfl rfl ?_
                      | refine Jl.yd (Y.pickT rfl rfl rfl) rfl rfl rfl ?_
                      | refine Jl.yd (Y.pickF rfl rfl rfl) rfl rfl rfl ?_
                      | refine Jl.off rfl rfl rfl ?_
                      | refine Jl.yd (Y.cmpF rfl rfl rfl rfl (by omega)) rfl rfl rfl ?_
                      | refine Jl.yd (Y.cmpT rfl rfl rfl rfl (by omega)) rfl rfl rfl ?_
                      | refine Jl.yd (Y.neqB rfl rfl rfl Try.underlying4) rfl rfl rfl ?_
                      | refine Jl.yd (Y.cmp rfl rfl rfl rfl) rfl rfl rfl ?_
                      | refine Jl.yd (Y.not rfl rfl) rfl rfl rfl ?_
                      | refine Jl.yd (Y.arithN rfl rfl rfl rfl (by omega)) rfl rfl rfl ?_
                      | refine Jl.yd (Y.arith64 rfl rfl rfl rfl) rfl rfl rfl ?_
                      | refine Jl.splitG rfl rfl (fun h => ?_) (fun h => ?_))
                    | (apply gateE; first
                      | refine Jl.nil (Ej.go ?_ (fun _ _ h => h))
                      | (refine Jl.nil (Ej.back (fun _ _ h => h) (by repeat (first | exact .refl | apply DropTo.tail)) ?_); repeat (first | exact trivial | refine ⟨rfl, ?_⟩)))
                    | (apply gateC; first
                      | refine Cj.block rfl ?_
                      | refine Cj.condF rfl rfl (Cj.skip rfl (Ej.go ?_ (fun _ _ h => h)))
                      | (refine Cj.condF rfl rfl (Cj.skip rfl (Ej.back (fun _ _ h => h) (by repeat (first | exact .refl | apply DropTo.tail)) ?_)); repeat (first | exact trivial | refine ⟨rfl, ?_⟩))
                      | refine Cj.condF rfl rfl ?_
                      | refine Cj.condT rfl rfl ?_
                      | refine Cj.exit rfl (Ej.go ?_ (fun _ _ h => h))
                      | refine Cj.cond rfl rfl (fun h => ?_) (fun h => ?_)
                      | refine Cj.skip rfl (Ej.go ?_ (fun _ _ h => h))
                      | (refine Cj.skip rfl (Ej.back (fun _ _ h => h) (by repeat (first | exact .refl | apply DropTo.tail)) ?_); repeat (first | exact trivial | refine ⟨rfl, ?_⟩))
                      | refine Cj.seq rfl ?_
                      | refine Cj.region rfl ?_))
                refine Jl.nil (Ej.cutP (ι := Nat × Option Addr × Nat × List S40) _ _ _ _ (fun _ _ h => h) (i + 1, A14, c14, (([] ++ s.take k) ++ [x]) ++ s.drop k) ⟨⟨by omega, fin.trans hE, h14⟩, by dsimp only; omega⟩ ⟨rfl, rfl, rfl, rfl, rfl, rfl, trivial⟩ (by repeat (first | exact .nil | refine Pick.cons (by repeat (first | exact .z | apply OutAt.s)) ?_)) (fun p hp => by rw [List.mem_singleton.1 hp]; exact memT (memT (memT memH))))
              · skip
                refine Jl.yd (Y.loadK z40 [.int .i64 x.f0, .int .i64 x.f1.f0, .int .i64 x.f1.f1, .int .i64 x.f1.f2, .int .i64 x.f1.f3, .bool x.f1.f4, .int .i64 x.f2] rfl rfl agg40 (by repeat (first | exact .head _ | refine .tail _ ?_)) ((i : Int)) (by omega) (by omega) (by rfl) (fun w cs h => (k40_open h).trans hus) (by rfl)) rfl rfl rfl ?_
                refine Jl.jw ?_
                refine Jw.br2 (mkD [] [0]) 4 9 rfl rfl (by decide +kernel) rfl rfl ?_ ?_
                · skip
                  refine Jl.appF (enc := enc) flat40 (xs := []) (zs := s.take k) rfl rfl rfl rfl rfl rfl ap46 (by rw [List.length_take]; omega) (by repeat (first | exact memH | refine memT ?_)) (by repeat (first | exact .z | apply OutAt.s)) (by (try simp only [List.length_append, List.length_cons, List.length_nil, List.length_take, List.length_drop]); omega) (by (try simp only [List.length_append, List.length_cons, List.length_nil, List.length_take, List.length_drop]); omega) (fun A4 c4 h4 => ?_)
                  refine Jl.jw ?_
                  refine Jw.step (mkD [] [0]) 9 rfl (by decide +kernel) rfl rfl ?_
                  refine Jl.litS (us := [.int .i64 x.f0, .int .i64 x.f1.f0, .int .i64 x.f1.f1, .int .i64 x.f1.f2, .int .i64 x.f1.f3, .bool x.f1.f4, .int .i64 x.f2]) (zs := [.int .i64 0, .int .i64 0, .int .i64 0, .int .i64 0, .int .i64 0, .bool false, .int .i64 0]) rfl rfl rfl rfl rfl el46 zero40 rfl rfl (fill7 _ _ _ _ _ _ _ _ _ _ _ _ _ _) (fun g9 => ?_)
                  refine Jl.jw ?_
                  refine Jw.step (mkD [] [0]) 10 rfl (by decide +kernel) rfl rfl ?_
                  refine Jl.app (dk := k40) (xs := [] ++ s.take k) x (fun _ => False) rfl rfl rfl rfl rfl rfl ap46 (by repeat (first | exact .head _ | refine .tail _ ?_)) rfl (fun w => k40_mkM w 0 (fun _ => False) x) (encO x) (by repeat (first | exact .z | apply OutAt.s)) (by (try simp only [List.length_append, List.length_cons, List.length_nil, List.length_take, List.length_drop]); omega) (by (try simp only [List.length_append, List.length_cons, List.length_nil, List.length_take, List.length_drop]); omega) (fun A10 c10 h10 => ?_)
                  refine Jl.jw ?_
                  refine Jw.step (mkD [] [0]) 14 rfl (by decide +kernel) rfl rfl ?_
                  refine Jl.appF (enc := enc) flat40 (xs := ([] ++ s.take k) ++ [x]) (zs := s.drop k) rfl rfl rfl rfl rfl rfl ap46 (by rw [List.length_drop]; omega) (by repeat (first | exact memH | refine memT ?_)) (by repeat (first | exact .z | apply OutAt.s)) (by (try simp only [List.length_append, List.length_cons, List.length_nil, List.length_take, List.length_drop]); omega) (by (try simp only [List.length_append, List.length_cons, List.length_nil, List.length_take, List.length_drop]); omega) (fun A14 c14 h14 => ?_)
                  refine Jl.jw ?_
                  refine Jw.take 15 rfl (by decide +kernel) (by intro c a d v w h; cases d <;> exact h) (fun w => Y.asg rfl rfl) rfl rfl rfl ?_
                  refine Jw.done (by decide +kernel) (Ej.go ?_ (fun _ _ h => h))
                  repeat (first
                      | (apply gateO; first
                        | refine Jl.yd (Y.mv rfl rfl) rfl rfl rfl ?_
                        | refine Jl.yd (Y.asg rfl rfl) rfl rfl rfl ?_
                        | refine Jl.yd (Y.ext rfl rfl rfl) rfl rfl rfl ?_
                        | refine Jl.yd (Y.pickT rfl rfl rfl) rfl rfl rfl ?_
                        | refine Jl.yd (Y.pickF rfl rfl rfl) rfl rfl rfl ?_
                        | refine Jl.off rfl rfl rfl ?_
                        | refine Jl.yd (Y.cmpF rfl rfl rfl rfl (by omega)) rfl rfl rfl ?_
                        | refine Jl.yd (Y.cmpT rfl rfl rfl rfl (by omega)) rfl rfl rfl ?_
                        | refine Jl.yd (Y.neqB rfl rfl rfl Try.underlying4) rfl rfl rfl ?_
                        | refine Jl.yd (Y.cmp rfl rfl rfl rfl) rfl rfl rfl ?_
                        | refine Jl.yd (Y.not rfl rfl) rfl rfl rfl ?_
                        | refine Jl.yd (Y.arithN rfl rfl rfl rfl (by omega)) rfl rfl rfl ?_
                        | refine Jl.yd (Y.arith64 rfl rfl rfl rfl) rfl rfl rfl ?_
                        | refine Jl.splitG rfl rfl (fun h => ?_) (fun h => ?_))
                      | (apply gateE; first
                        | refine Jl.nil (Ej.go ?_ (fun _ _ h => h))
                        | (refine Jl.nil (Ej.back (fun _ _ h => h) (by repeat (first | exact .refl | apply DropTo.tail)) ?_); repeat (first | exact trivial | refine ⟨rfl, ?_⟩)))
                      | (apply gateC; first
                        | refine Cj.block rfl ?_
                        | refine Cj.condF rfl rfl (Cj.skip rfl (Ej.go ?_ (fun _ _ h => h)))
                        | (refine Cj.condF rfl rfl (Cj.skip rfl (Ej.back (fun _ _ h => h) (by repeat (first | exact .refl | apply DropTo.tail)) ?_)); repeat (first | exact trivial | refine ⟨rfl, ?_⟩))
                        | refine Cj.condF rfl rfl ?_
                        | refine Cj.condT rfl rfl ?_
                        | refine Cj.exit rfl (Ej.go ?_ (fun _ _ h => h))
                        | refine Cj.cond rfl rfl (fun h => ?_) (fun h => ?_)
                        | refine Cj.skip rfl (Ej.go ?_ (fun _ _ h => h))
                        | (refine Cj.skip rfl (Ej.back (fun _ _ h => h) (by repeat (first | exact .refl | apply DropTo.tail)) ?_); repeat (first | exact trivial | refine ⟨rfl, ?_⟩))
                        | refine Cj.seq rfl ?_
                        | refine Cj.region rfl ?_))
                  refine Jl.nil (Ej.cutP (ι := Nat × Option Addr × Nat × List S40) _ _ _ _ (fun _ _ h => h) (i + 1, A14, c14, (([] ++ s.take k) ++ [x]) ++ s.drop k) ⟨⟨by omega, fin.trans hE, h14⟩, by dsimp only; omega⟩ ⟨rfl, rfl, rfl, rfl, rfl, rfl, trivial⟩ (by repeat (first | exact .nil | refine Pick.cons (by repeat (first | exact .z | apply OutAt.s)) ?_)) (fun p hp => by rw [List.mem_singleton.1 hp]; exact memT (memT (memT memH))))
                · skip
                  refine Jl.litS (us := [.int .i64 x.f0, .int .i64 x.f1.f0, .int .i64 x.f1.f1, .int .i64 x.f1.f2, .int .i64 x.f1.f3, .bool x.f1.f4, .int .i64 x.f2]) (zs := [.int .i64 0, .int .i64 0, .int .i64 0, .int .i64 0, .int .i64 0, .bool false, .int .i64 0]) rfl rfl rfl rfl rfl el46 zero40 rfl rfl (fill7 _ _ _ _ _ _ _ _ _ _ _ _ _ _) (fun g9 => ?_)
                  refine Jl.jw ?_
                  refine Jw.step (mkD [] [0]) 4 rfl (by decide +kernel) rfl rfl ?_
                  refine Jl.appF (enc := enc) flat40 (xs := []) (zs := s.take k) rfl rfl rfl rfl rfl rfl ap46 (by rw [List.length_take]; omega) (by repeat (first | exact memH | refine memT ?_)) (by repeat (first | exact .z | apply OutAt.s)) (by (try simp only [List.length_append, List.length_cons, List.length_nil, List.length_take, List.length_drop]); omega) (by (try simp only [List.length_append, List.length_cons, List.length_nil, List.length_take, List.length_drop]); omega) (fun A4 c4 h4 => ?_)
                  refine Jl.jw ?_
                  refine Jw.step (mkD [] [0]) 10 rfl (by decide +kernel) rfl rfl ?_
                  refine Jl.app (dk := k40) (xs := [] ++ s.take k) x (fun _ => False) rfl rfl rfl rfl rfl rfl ap46 (by repeat (first | exact .head _ | refine .tail _ ?_)) rfl (fun w => k40_mkM w 0 (fun _ => False) x) (encO x) (by repeat (first | exact .z | apply OutAt.s)) (by (try simp only [List.length_append, List.length_cons, List.length_nil, List.length_take, List.length_drop]); omega) (by (try simp only [List.length_append, List.length_cons, List.length_nil, List.length_take, List.length_drop]); omega) (fun A10 c10 h10 => ?_)
                  refine Jl.jw ?_
                  refine Jw.step (mkD [] [0]) 14 rfl (by decide +kernel) rfl rfl ?_
                  refine Jl.appF (enc := enc) flat40 (xs := ([] ++ s.take k) ++ [x]) (zs := s.drop k) rfl rfl rfl rfl rfl rfl ap46 (by rw [List.length_drop]; omega) (by repeat (first | exact memH | refine memT ?_)) (by repeat (first | exact .z | apply OutAt.s)) (by (try simp only [List.length_append, List.length_cons, List.length_nil, List.length_take, List.length_drop]); omega) (by (try simp only [List.length_append, List.length_cons, List.length_nil, List.length_take, List.length_drop]); omega) (fun A14 c14 h14 => ?_)
                  refine Jl.jw ?_
                  refine Jw.take 15 rfl (by decide +kernel) (by intro c a d v w h; cases d <;> exact h) (fun w => Y.asg rfl rfl) rfl rfl rfl ?_
                  refine Jw.done (by decide +kernel) (Ej.go ?_ (fun _ _ h => h))
                  repeat (first
                      | (apply gateO; first
                        | refine Jl.yd (Y.mv rfl rfl) rfl rfl rfl ?_
                        | refine Jl.yd (Y.asg rfl rfl) rfl rfl rfl ?_
                        | refine Jl.yd (Y.ext rfl rfl rfl) rfl rfl rfl ?_
                        | refine Jl.yd (Y.pickT rfl rfl rfl) rfl rfl rfl ?_
                        | refine Jl.yd (Y.pickF rfl rfl rfl) rfl rfl rfl ?_
                        | refine Jl.off rfl rfl rfl ?_
                        | refine Jl.yd (Y.cmpF rfl rfl rfl rfl (by omega)) rfl rfl rfl ?_
                        | refine Jl.yd (Y.cmpT rfl rfl rfl rfl (by omega)) rfl rfl rfl ?_
                        | refine Jl.yd (Y.neqB rfl rfl rfl Try.underlying4) rfl rfl rfl ?_
                        | refine Jl.yd (Y.cmp rfl rfl rfl rfl) rfl rfl rfl ?_
                        | refine Jl.yd (Y.not rfl rfl) rfl rfl rfl ?_
                        | refine Jl.yd (Y.arithN rfl rfl rfl rfl (by omega)) rfl rfl rfl ?_
                        | refine Jl.yd (Y.arith64 rfl rfl rfl rfl) rfl rfl rfl ?_
                        | refine Jl.splitG rfl rfl (fun h => ?_) (fun h => ?_))
                      | (apply gateE; first
                        | refine Jl.nil (Ej.go ?_ (fun _ _ h => h))
                        | (refine Jl.nil (Ej.back (fun _ _ h => h) (by repeat (first | exact .refl | apply DropTo.tail)) ?_); repeat (first | exact trivial | refine ⟨rfl, ?_⟩)))
                      | (apply gateC; first
                        | refine Cj.block rfl ?_
                        | refine Cj.condF rfl rfl (Cj.skip rfl (Ej.go ?_ (fun _ _ h => h)))
                        | (refine Cj.condF rfl rfl (Cj.skip rfl (Ej.back (fun _ _ h => h) (by repeat (first | exact .refl | apply DropTo.tail)) ?_)); repeat (first | exact trivial | refine ⟨rfl, ?_⟩))
                        | refine Cj.condF rfl rfl ?_
                        | refine Cj.condT rfl rfl ?_
                        | refine Cj.exit rfl (Ej.go ?_ (fun _ _ h => h))
                        | refine Cj.cond rfl rfl (fun h => ?_) (fun h => ?_)
                        | refine Cj.skip rfl (Ej.go ?_ (fun _ _ h => h))
                        | (refine Cj.skip rfl (Ej.back (fun _ _ h => h) (by repeat (first | exact .refl | apply DropTo.tail)) ?_); repeat (first | exact trivial | refine ⟨rfl, ?_⟩))
                        | refine Cj.seq rfl ?_
                        | refine Cj.region rfl ?_))
                  refine Jl.nil (Ej.cutP (ι := Nat × Option Addr × Nat × List S40) _ _ _ _ (fun _ _ h => h) (i + 1, A14, c14, (([] ++ s.take k) ++ [x]) ++ s.drop k) ⟨⟨by omega, fin.trans hE, h14⟩, by dsimp only; omega⟩ ⟨rfl, rfl, rfl, rfl, rfl, rfl, trivial⟩ (by repeat (first | exact .nil | refine Pick.cons (by repeat (first | exact .z | apply OutAt.s)) ?_)) (fun p hp => by rw [List.mem_singleton.1 hp]; exact memT (memT (memT memH))))
            · skip
              refine Jl.yd (Y.loadK z40 [.int .i64 x.f0, .int .i64 x.f1.f0, .int .i64 x.f1.f1, .int .i64 x.f1.f2, .int .i64 x.f1.f3, .bool x.f1.f4, .int .i64 x.f2] rfl rfl agg40 (by repeat (first | exact .head _ | refine .tail _ ?_)) ((i : Int)) (by omega) (by omega) (by rfl) (fun w cs h => (k40_open h).trans hus) (by rfl)) rfl rfl rfl ?_
              refine Jl.jw ?_
              refine Jw.br2 (mkD [] [0]) 0 9 rfl rfl (by decide +kernel) rfl rfl ?_ ?_
              · skip
                refine Jl.lit0 k40 rfl rfl rfl rfl el46 (fun g0 => ?_)
                refine Jl.jw ?_
                refine Jw.br2 (mkD [] [0]) 4 9 rfl rfl (by decide +kernel) rfl rfl ?_ ?_
                · skip
                  refine Jl.appF (enc := enc) flat40 (xs := []) (zs := s.take k) rfl rfl rfl rfl rfl rfl ap46 (by rw [List.length_take]; omega) (by repeat (first | exact memH | refine memT ?_)) (by repeat (first | exact .z | apply OutAt.s)) (by (try simp only [List.length_append, List.length_cons, List.length_nil, List.length_take, List.length_drop]); omega) (by (try simp only [List.length_append, List.length_cons, List.length_nil, List.length_take, List.length_drop]); omega) (fun A4 c4 h4 => ?_)
                  refine Jl.jw ?_
                  refine Jw.step (mkD [] [0]) 9 rfl (by decide +kernel) rfl rfl ?_
                  refine Jl.litS (us := [.int .i64 x.f0, .int .i64 x.f1.f0, .int .i64 x.f1.f1, .int .i64 x.f1.f2, .int .i64 x.f1.f3, .bool x.f1.f4, .int .i64 x.f2]) (zs := [.int .i64 0, .int .i64 0, .int .i64 0, .int .i64 0, .int .i64 0, .bool false, .int .i64 0]) rfl rfl rfl rfl rfl el46 zero40 rfl rfl (fill7 _ _ _ _ _ _ _ _ _ _ _ _ _ _) (fun g9 => ?_)
                  refine Jl.jw ?_
                  refine Jw.step (mkD [] [0]) 10 rfl (by decide +kernel) rfl rfl ?_
                  refine Jl.app (dk := k40) (xs := [] ++ s.take k) x (fun _ => False) rfl rfl rfl rfl rfl rfl ap46 (by repeat (first | exact .head _ | refine .tail _ ?_)) rfl (fun w => k40_mkM w 0 (fun _ => False) x) (encO x) (by repeat (first | exact .z | apply OutAt.s)) (by (try simp only [List.length_append, List.length_cons, List.length_nil, List.length_take, List.length_drop]); omega) (by (try simp only [List.length_append, List.length_cons, List.length_nil, List.length_take, List.length_drop]); omega) (fun A10 c10 h10 => ?_)
                  refine Jl.jw ?_
                  refine Jw.step (mkD [] [0]) 14 rfl (by decide +kernel) rfl rfl ?_
                  refine Jl.appF (enc := enc) flat40 (xs := ([] ++ s.take k) ++ [x]) (zs := s.drop k) rfl rfl rfl rfl rfl rfl ap46 (by rw [List.length_drop]; omega) (by repeat (first | exact memH | refine memT ?_)) (by repeat (first | exact .z | apply OutAt.s)) (by (try simp only [List.length_append, List.length_cons, List.length_nil, List.length_take, List.length_drop]); omega) (by (try simp only [List.length_append, List.length_cons, List.length_nil, List.length_take, List.length_drop]); omega) (fun A14 c14 h14 => ?_)
                  refine Jl.jw ?_
                  refine Jw.take 15 rfl (by decide +kernel) (by intro c a d v w h; cases d <;> exact h) (fun w => Y.asg rfl rfl) rfl rfl rfl ?_
                  refine Jw.done (by decide +kernel) (Ej.go ?_ (fun _ _ h => h))
                  repeat (first
                      | (apply gateO; first
                        | refine Jl.yd (Y.mv rfl rfl) rfl rfl rfl ?_
                        | refine Jl.yd (Y.asg rfl rfl) rfl rfl rfl ?_
                        | refine Jl.yd (Y.ext rfl rfl rfl) rfl rfl rfl ?_
                        | refine Jl.yd (Y.pickT rfl rfl rfl) rfl rfl rfl ?_
                        | refine Jl.yd (Y.pickF rfl rfl rfl) rfl rfl rfl ?_
                        | refine Jl.off rfl rfl rfl ?_
                        | refine Jl.yd (Y.cmpF rfl rfl rfl rfl (by omega)) rfl rfl rfl ?_
                        | refine Jl.yd (Y.cmpT rfl rfl rfl rfl (by omega)) rfl rfl rfl ?_
                        | refine Jl.yd (Y.neqB rfl rfl rfl Try.underlying4) rfl rfl rfl ?_
                        | refine Jl.yd (Y.cmp rfl rfl rfl rfl) rfl rfl rfl ?_
                        | refine Jl.yd (Y.not rfl rfl) rfl rfl rfl ?_
                        | refine Jl.yd (Y.arithN rfl rfl rfl rfl (by omega)) rfl rfl rfl ?_
                        | refine Jl.yd (Y.arith64 rfl rfl rfl rfl) rfl rfl rfl ?_
                        | refine Jl.splitG rfl rfl (fun h => ?_) (fun h => ?_))
                      | (apply gateE; first
                        | refine Jl.nil (Ej.go ?_ (fun _ _ h => h))
                        | (refine Jl.nil (Ej.back (fun _ _ h => h) (by repeat (first | exact .refl | apply DropTo.tail)) ?_); repeat (first | exact trivial | refine ⟨rfl, ?_⟩)))
                      | (apply gateC; first
                        | refine Cj.block rfl ?_
                        | refine Cj.condF rfl rfl (Cj.skip rfl (Ej.go ?_ (fun _ _ h => h)))
                        | (refine Cj.condF rfl rfl (Cj.skip rfl (Ej.back (fun _ _ h => h) (by repeat (first | exact .refl | apply DropTo.tail)) ?_)); repeat (first | exact trivial | refine ⟨rfl, ?_⟩))
                        | refine Cj.condF rfl rfl ?_
                        | refine Cj.condT rfl rfl ?_
                        | refine Cj.exit rfl (Ej.go ?_ (fun _ _ h => h))
                        | refine Cj.cond rfl rfl (fun h => ?_) (fun h => ?_)
                        | refine Cj.skip rfl (Ej.go ?_ (fun _ _ h => h))
                        | (refine Cj.skip rfl (Ej.back (fun _ _ h => h) (by repeat (first | exact .refl | apply DropTo.tail)) ?_); repeat (first | exact trivial | refine ⟨rfl, ?_⟩))
                        | refine Cj.seq rfl ?_
                        | refine Cj.region rfl ?_))
                  refine Jl.nil (Ej.cutP (ι := Nat × Option Addr × Nat × List S40) _ _ _ _ (fun _ _ h => h) (i + 1, A14, c14, (([] ++ s.take k) ++ [x]) ++ s.drop k) ⟨⟨by omega, fin.trans hE, h14⟩, by dsimp only; omega⟩ ⟨rfl, rfl, rfl, rfl, rfl, rfl, trivial⟩ (by repeat (first | exact .nil | refine Pick.cons (by repeat (first | exact .z | apply OutAt.s)) ?_)) (fun p hp => by rw [List.mem_singleton.1 hp]; exact memT (memT (memT memH))))
                · skip
                  refine Jl.litS (us := [.int .i64 x.f0, .int .i64 x.f1.f0, .int .i64 x.f1.f1, .int .i64 x.f1.f2, .int .i64 x.f1.f3, .bool x.f1.f4, .int .i64 x.f2]) (zs := [.int .i64 0, .int .i64 0, .int .i64 0, .int .i64 0, .int .i64 0, .bool false, .int .i64 0]) rfl rfl rfl rfl rfl el46 zero40 rfl rfl (fill7 _ _ _ _ _ _ _ _ _ _ _ _ _ _) (fun g9 => ?_)
                  refine Jl.jw ?_
                  refine Jw.step (mkD [] [0]) 4 rfl (by decide +kernel) rfl rfl ?_
                  refine Jl.appF (enc := enc) flat40 (xs := []) (zs := s.take k) rfl rfl rfl rfl rfl rfl ap46 (by rw [List.length_take]; omega) (by repeat (first | exact memH | refine memT ?_)) (by repeat (first | exact .z | apply OutAt.s)) (by (try simp only [List.length_append, List.length_cons, List.length_nil, List.length_take, List.length_drop]); omega) (by (try simp only [List.length_append, List.length_cons, List.length_nil, List.length_take, List.length_drop]); omega) (fun A4 c4 h4 => ?_)
                  refine Jl.jw ?_
                  refine Jw.step (mkD [] [0]) 10 rfl (by decide +kernel) rfl rfl ?_
                  refine Jl.app (dk := k40) (xs := [] ++ s.take k) x (fun _ => False) rfl rfl rfl rfl rfl rfl ap46 (by repeat (first | exact .head _ | refine .tail _ ?_)) rfl (fun w => k40_mkM w 0 (fun _ => False) x) (encO x) (by repeat (first | exact .z | apply OutAt.s)) (by (try simp only [List.length_append, List.length_cons, List.length_nil, List.length_take, List.length_drop]); omega) (by (try simp only [List.length_append, List.length_cons, List.length_nil, List.length_take, List.length_drop]); omega) (fun A10 c10 h10 => ?_)
                  refine Jl.jw ?_
                  refine Jw.step (mkD [] [0]) 14 rfl (by decide +kernel) rfl rfl ?_
                  refine Jl.appF (enc := enc) flat40 (xs := ([] ++ s.take k) ++ [x]) (zs := s.drop k) rfl rfl rfl rfl rfl rfl ap46 (by rw [List.length_drop]; omega) (by repeat (first | exact memH | refine memT ?_)) (by repeat (first | exact .z | apply OutAt.s)) (by (try simp only [List.length_append, List.length_cons, List.length_nil, List.length_take, List.length_drop]); omega) (by (try simp only [List.length_append, List.length_cons, List.length_nil, List.length_take, List.length_drop]); omega) (fun A14 c14 h14 => ?_)
                  refine Jl.jw ?_
                  refine Jw.take 15 rfl (by decide +kernel) (by intro c a d v w h; cases d <;> exact h) (fun w => Y.asg rfl rfl) rfl rfl rfl ?_
                  refine Jw.done (by decide +kernel) (Ej.go ?_ (fun _ _ h => h))
                  repeat (first
                      | (apply gateO; first
                        | refine Jl.yd (Y.mv rfl rfl) rfl rfl rfl ?_
                        | refine Jl.yd (Y.asg rfl rfl) rfl rfl rfl ?_
                        | refine Jl.yd (Y.ext rfl rfl rfl) rfl rfl rfl ?_
                        | refine Jl.yd (Y.pickT rfl rfl rfl) rfl rfl rfl ?_
                        | refine Jl.yd (Y.pickF rfl rfl rfl) rfl rfl rfl ?_
                        | refine Jl.off rfl rfl rfl ?_
                        | refine Jl.yd (Y.cmpF rfl rfl rfl rfl (by omega)) rfl rfl rfl ?_
                        | refine Jl.yd (Y.cmpT rfl rfl rfl rfl (by omega)) rfl rfl rfl ?_
                        | refine Jl.yd (Y.neqB rfl rfl rfl Try.underlying4) rfl rfl rfl ?_
                        | refine Jl.yd (Y.cmp rfl rfl rfl rfl) rfl rfl rfl ?_
                        | refine Jl.yd (Y.not rfl rfl) rfl rfl rfl ?_
                        | refine Jl.yd (Y.arithN rfl rfl rfl rfl (by omega)) rfl rfl rfl ?_
                        | refine Jl.yd (Y.arith64 rfl rfl rfl rfl) rfl rfl rfl ?_
                        | refine Jl.splitG rfl rfl (fun h => ?_) (fun h => ?_))
                      | (apply gateE; first
                        | refine Jl.nil (Ej.go ?_ (fun _ _ h => h))
                        | (refine Jl.nil (Ej.back (fun _ _ h => h) (by repeat (first | exact .refl | apply DropTo.tail)) ?_); repeat (first | exact trivial | refine ⟨rfl, ?_⟩)))
                      | (apply gateC; first
                        | refine Cj.block rfl ?_
                        | refine Cj.condF rfl rfl (Cj.skip rfl (Ej.go ?_ (fun _ _ h => h)))
                        | (refine Cj.condF rfl rfl (Cj.skip rfl (Ej.back (fun _ _ h => h) (by repeat (first | exact .refl | apply DropTo.tail)) ?_)); repeat (first | exact trivial | refine ⟨rfl, ?_⟩))
                        | refine Cj.condF rfl rfl ?_
                        | refine Cj.condT rfl rfl ?_
                        | refine Cj.exit rfl (Ej.go ?_ (fun _ _ h => h))
                        | refine Cj.cond rfl rfl (fun h => ?_) (fun h => ?_)
                        | refine Cj.skip rfl (Ej.go ?_ (fun _ _ h => h))
                        | (refine Cj.skip rfl (Ej.back (fun _ _ h => h) (by repeat (first | exact .refl | apply DropTo.tail)) ?_); repeat (first | exact trivial | refine ⟨rfl, ?_⟩))
                        | refine Cj.seq rfl ?_
                        | refine Cj.region rfl ?_))
                  refine Jl.nil (Ej.cutP (ι := Nat × Option Addr × Nat × List S40) _ _ _ _ (fun _ _ h => h) (i + 1, A14, c14, (([] ++ s.take k) ++ [x]) ++ s.drop k) ⟨⟨by omega, fin.trans hE, h14⟩, by dsimp only; omega⟩ ⟨rfl, rfl, rfl, rfl, rfl, rfl, trivial⟩ (by repeat (first | exact .nil | refine Pick.cons (by repeat (first | exact .z | apply OutAt.s)) ?_)) (fun p hp => by rw [List.mem_singleton.1 hp]; exact memT (memT (memT memH))))
              · skip
                refine Jl.litS (us := [.int .i64 x.f0, .int .i64 x.f1.f0, .int .i64 x.f1.f1, .int .i64 x.f1.f2, .int .i64 x.f1.f3, .bool x.f1.f4, .int .i64 x.f2]) (zs := [.int .i64 0, .int .i64 0, .int .i64 0, .int .i64 0, .int .i64 0, .bool false, .int .i64 0]) rfl rfl rfl rfl rfl el46 zero40 rfl rfl (fill7 _ _ _ _ _ _ _ _ _ _ _ _ _ _) (fun g9 => ?_)
                refine Jl.jw ?_
                refine Jw.step (mkD [] [0]) 0 rfl (by decide +kernel) rfl rfl ?_
                refine Jl.lit0 k40 rfl rfl rfl rfl el46 (fun g0 => ?_)
                refine Jl.jw ?_
                refine Jw.step (mkD [] [0]) 4 rfl (by decide +kernel) rfl rfl ?_
                refine Jl.appF (enc := enc) flat40 (xs := []) (zs := s.take k) rfl rfl rfl rfl rfl rfl ap46 (by rw [List.length_take]; omega) (by repeat (first | exact memH | refine memT ?_)) (by repeat (first | exact .z | apply OutAt.s)) (by (try simp only [List.length_append, List.length_cons, List.length_nil, List.length_take, List.length_drop]); omega) (by (try simp only [List.length_append, List.length_cons, List.length_nil, List.length_take, List.length_drop]); omega) (fun A4 c4 h4 => ?_)
                refine Jl.jw ?_
                refine Jw.step (mkD [] [0]) 10 rfl (by decide +kernel) rfl rfl ?_
                refine Jl.app (dk := k40) (xs := [] ++ s.take k) x (fun _ => False) rfl rfl rfl rfl rfl rfl ap46 (by repeat (first | exact .head _ | refine .tail _ ?_)) rfl (fun w => k40_mkM w 0 (fun _ => False) x) (encO x) (by repeat (first | exact .z | apply OutAt.s)) (by (try simp only [List.length_append, List.length_cons, List.length_nil, List.length_take, List.length_drop]); omega) (by (try simp only [List.length_append, List.length_cons, List.length_nil, List.length_take, List.length_drop]); omega) (fun A10 c10 h10 => ?_)
                refine Jl.jw ?_
                refine Jw.step (mkD [] [0]) 14 rfl (by decide +kernel) rfl rfl ?_
                refine Jl.appF (enc := enc) flat40 (xs := ([] ++ s.take k) ++ [x]) (zs := s.drop k) rfl rfl rfl rfl rfl rfl ap46 (by rw [List.length_drop]; omega) (by repeat (first | exact memH | refine memT ?_)) (by repeat (first | exact .z | apply OutAt.s)) (by (try simp only [List.length_append, List.length_cons, List.length_nil, List.length_take, List.length_drop]); omega) (by (try simp only [List.length_append, List.length_cons, List.length_nil, List.length_take, List.length_drop]); omega) (fun A14 c14 h14 => ?_)
                refine Jl.jw ?_
                refine Jw.take 15 rfl (by decide +kernel) (by intro c a d v w h; cases d <;> exact h) (fun w => Y.asg rfl rfl) rfl rfl rfl ?_
                refine Jw.done (by decide +kernel) (Ej.go ?_ (fun _ _ h => h))
                repeat (first
                    | (apply gateO; first
                      | refine Jl.yd (Y.mv rfl rfl) rfl rfl rfl ?_
                      | refine Jl.yd (Y.asg rfl rfl) rfl rfl rfl ?_
                      | refine Jl.yd (Y.ext rfl rfl rfl) rfl rfl rfl ?_
                      | refine Jl.yd (Y.pickT rfl rfl rfl) rfl rfl rfl ?_
                      | refine Jl.yd (Y.pickF rfl rfl rfl) rfl rfl rfl ?_
                      | refine Jl.off rfl rfl rfl ?_
                      | refine Jl.yd (Y.cmpF rfl rfl rfl rfl (by omega)) rfl rfl rfl ?_
                      | refine Jl.yd (Y.cmpT rfl rfl rfl rfl (by omega)) rfl rfl rfl ?_
                      | refine Jl.yd (Y.neqB rfl rfl rfl Try.underlying4) rfl rfl rfl ?_
                      | refine Jl.yd (Y.cmp rfl rfl rfl rfl) rfl rfl rfl ?_
                      | refine Jl.yd (Y.not rfl rfl) rfl rfl rfl ?_
                      | refine Jl.yd (Y.arithN rfl rfl rfl rfl (by omega)) rfl rfl rfl ?_
                      | refine Jl.yd (Y.arith64 rfl rfl rfl rfl) rfl rfl rfl ?_
                      | refine Jl.splitG rfl rfl (fun h => ?_) (fun h => ?_))
                    | (apply gateE; first
                      | refine Jl.nil (Ej.go ?_ (fun _ _ h => h))
                      | (refine Jl.nil (Ej.back (fun _ _ h => h) (by repeat (first | exact .refl | apply DropTo.tail)) ?_); repeat (first | exact trivial | refine ⟨rfl, ?_⟩)))
                    | (apply gateC; first
                      | refine Cj.block rfl ?_
                      | refine Cj.condF rfl rfl (Cj.skip rfl (Ej.go ?_ (fun _ _ h => h)))
                      | (refine Cj.condF rfl rfl (Cj.skip rfl (Ej.back (fun _ _ h => h) (by repeat (first | exact .refl | apply DropTo.tail)) ?_)); repeat (first | exact trivial | refine ⟨rfl, ?_⟩))
                      | refine Cj.condF rfl rfl ?_
                      | refine Cj.condT rfl rfl ?_
                      | refine Cj.exit rfl (Ej.go ?_ (fun _ _ h => h))
                      | refine Cj.cond rfl rfl (fun h => ?_) (fun h => ?_)
                      | refine Cj.skip rfl (Ej.go ?_ (fun _ _ h => h))
                      | (refine Cj.skip rfl (Ej.back (fun _ _ h => h) (by repeat (first | exact .refl | apply DropTo.tail)) ?_); repeat (first | exact trivial | refine ⟨rfl, ?_⟩))
                      | refine Cj.seq rfl ?_
                      | refine Cj.region rfl ?_))
                refine Jl.nil (Ej.cutP (ι := Nat × Option Addr × Nat × List S40) _ _ _ _ (fun _ _ h => h) (i + 1, A14, c14, (([] ++ s.take k) ++ [x]) ++ s.drop k) ⟨⟨by omega, fin.trans hE, h14⟩, by dsimp only; omega⟩ ⟨rfl, rfl, rfl, rfl, rfl, rfl, trivial⟩ (by repeat (first | exact .nil | refine Pick.cons (by repeat (first | exact .z | apply OutAt.s)) ?_)) (fun p hp => by rw [List.mem_singleton.1 hp]; exact memT (memT (memT memH))))
          · obtain ⟨y, hy⟩ : ∃ y, s[k - 1]? = some y := ⟨_, List.getElem?_eq_getElem (by omega)⟩
            have hym : okSx y = true := hgood y (List.mem_of_mem_take (near_mem (hs ▸ List.mem_of_getElem? hy)))
            have hyo : okA y.f1.f0 y.f1.f1 y.f1.f2 y.f1.f3 = true := (okS_iff.1 hym).2.1
            have hby : spec_l24Base.f y.f1.f0 y.f1.f1 y.f1.f2 y.f1.f3 y.f1.f4 = some (bAx y.f1) := sBase _ hyo
            have huy : enc (s.getD ((k : Int) - 1).toNat z40) = [.int .i64 y.f0, .int .i64 y.f1.f0, .int .i64 y.f1.f1, .int .i64 y.f1.f2, .int .i64 y.f1.f3, .bool y.f1.f4, .int .i64 y.f2] := by
              rw [show ((k : Int) - 1).toNat = k - 1 by omega, List.getD_eq_getElem?_getD, hy]; rfl
            obtain ⟨ad1, rfl⟩ : ∃ ad, A = some ad := hAn (by omega)
            have b1 := prod_b hok hym
            have b2 := prod_b hym hok
            have htk2 : (s.take k).reverse = y :: (s.take (k - 1)).reverse := by
              obtain ⟨j, rfl⟩ : ∃ j, k = j + 1 := ⟨k - 1, by omega⟩
              rw [List.take_add_one, show s[j]? = some y from hy]; simp
            have hdr2 : y :: s.drop k = s.drop (k - 1) := by
              obtain ⟨j, rfl⟩ : ∃ j, k = j + 1 := ⟨k - 1, by omega⟩
              rw [show j + 1 - 1 = j from rfl, List.drop_eq_getElem_cons (i := j) (by omega)]
              congr 1
              exact (List.getElem?_eq_some_iff.1 hy).2.symm
            by_cases hc : x.f2 * bAx y.f1 < y.f2 * bAx x.f1
            · have hgo2 : goI ltS x (s.take (k - 1)).reverse (s.drop (k - 1)) = insR ltS s x := by
                rw [← hgo, htk2, ← hdr2]
                conv => rhs; unfold goI
                rw [if_pos (by unfold ltS; simpa using hc)]
              repeat (first
    | (apply gateO; first
      | refine Jl.yd (Y.mv rfl rfl) rfl rfl rfl ?_
      | refine Jl.yd (Y.asg rfl rfl) rfl rfl rfl ?_
      | refine Jl.yd (Y.ext rfl rfl rfl) rfl rfl rfl ?_
      | refine Jl.yd (Y.pickT rfl rfl rfl) rfl rfl rfl ?_
      | refine Jl.yd (Y.pickF rfl rfl rfl) rfl rfl rfl ?_
      | refine Jl.off rfl rfl rfl ?_
      | refine Jl.yd (Y.cmpF rfl rfl rfl rfl (by omega)) rfl rfl rfl ?_
      | refine Jl.yd (Y.cmpT rfl rfl rfl rfl (by omega)) rfl rfl rfl ?_
      | refine Jl.yd (Y.neqB rfl rfl rfl Try.underlying4) rfl rfl rfl ?_
      | refine Jl.yd (Y.cmp rfl rfl rfl rfl) rfl rfl rfl ?_
      | refine Jl.yd (Y.not rfl rfl) rfl rfl rfl ?_
      | refine Jl.yd (Y.arithN rfl rfl rfl rfl (by omega)) rfl rfl rfl ?_
      | refine Jl.yd (Y.arith64 rfl rfl rfl rfl) rfl rfl rfl ?_
      | refine Jl.yd (Y.lenS Try.underlying46 rfl rfl rfl) rfl rfl rfl ?_
      | refine Jl.yd (Y.idx rfl rfl rfl el46 (by omega) (by omega)) rfl rfl rfl ?_
      | refine Jl.yd (Y.loadK1 z40 [.int .i64 y.f0, .int .i64 y.f1.f0, .int .i64 y.f1.f1, .int .i64 y.f1.f2, .int .i64 y.f1.f3, .bool y.f1.f4, .int .i64 y.f2] rfl rfl sc3 (by repeat (first | exact .head _ | refine .tail _ ?_)) (((k : Int) - 1)) 6 (by omega) (by omega) (by rfl) (fun w cs h => (k40_open h).trans huy) rfl) rfl rfl rfl ?_
      | refine Jl.yd (Y.loadKS z40 [.int .i64 y.f0, .int .i64 y.f1.f0, .int .i64 y.f1.f1, .int .i64 y.f1.f2, .int .i64 y.f1.f3, .bool y.f1.f4, .int .i64 y.f2] [.int .i64 y.f1.f0, .int .i64 y.f1.f1, .int .i64 y.f1.f2, .int .i64 y.f1.f3, .bool y.f1.f4] 1 rfl rfl agg25 (by repeat (first | exact .head _ | refine .tail _ ?_)) (((k : Int) - 1)) (by omega) (by omega) rfl (fun w cs h => (k40_open h).trans huy) rfl rfl) rfl rfl rfl ?_
      | refine Jl.yd (Y.loadK1 z40 [.int .i64 x.f0, .int .i64 x.f1.f0, .int .i64 x.f1.f1, .int .i64 x.f1.f2, .int .i64 x.f1.f3, .bool x.f1.f4, .int .i64 x.f2] rfl rfl sc3 (by repeat (first | exact .head _ | refine .tail _ ?_)) ((i : Int)) 6 (by omega) (by omega) (by rfl) (fun w cs h => (k40_open h).trans hus) rfl) rfl rfl rfl ?_
      | refine Jl.yd (Y.loadKS z40 [.int .i64 x.f0, .int .i64 x.f1.f0, .int .i64 x.f1.f1, .int .i64 x.f1.f2, .int .i64 x.f1.f3, .bool x.f1.f4, .int .i64 x.f2] [.int .i64 x.f1.f0, .int .i64 x.f1.f1, .int .i64 x.f1.f2, .int .i64 x.f1.f3, .bool x.f1.f4] 1 rfl rfl agg25 (by repeat (first | exact .head _ | refine .tail _ ?_)) ((i : Int)) (by omega) (by omega) rfl (fun w cs h => (k40_open h).trans hus) rfl rfl) rfl rfl rfl ?_
      | refine Jl.call1 (v := .int .i64 (bAx x.f1)) rfl rfl rfl rfl en54 rfl (fun w hW => by with_reducible first | exact spec_l24Base.calls x.f1.f0 x.f1.f1 x.f1.f2 x.f1.f3 x.f1.f4 (bAx x.f1) w hbx | exact Calls.mono (spec_l24Base.calls x.f1.f0 x.f1.f1 x.f1.f2 x.f1.f3 x.f1.f4 (bAx x.f1) w hbx) (fun _ _ hh => ⟨hh.1, hh.2.below⟩)) ?_
      | refine Jl.call1 (v := .int .i64 (bAx y.f1)) rfl rfl rfl rfl en54 rfl (fun w hW => by with_reducible first | exact spec_l24Base.calls y.f1.f0 y.f1.f1 y.f1.f2 y.f1.f3 y.f1.f4 (bAx y.f1) w hby | exact Calls.mono (spec_l24Base.calls y.f1.f0 y.f1.f1 y.f1.f2 y.f1.f3 y.f1.f4 (bAx y.f1) w hby) (fun _ _ hh => ⟨hh.1, hh.2.below⟩)) ?_
      | refine Jl.yd (Y.fld rfl rfl fld40_1) rfl rfl rfl ?_
      | refine Jl.yd (Y.fld rfl rfl fld40_2) rfl rfl rfl ?_
      | refine Jl.splitG rfl rfl (fun h => ?_) (fun h => ?_))
    | (apply gateE; first
      | refine Jl.nil (Ej.go ?_ (fun _ _ h => h))
      | (refine Jl.nil (Ej.back (fun _ _ h => h) (by repeat (first | exact .refl | apply DropTo.tail)) ?_); repeat (first | exact trivial | refine ⟨rfl, ?_⟩)))
    | (apply gateC; first
      | refine Cj.block rfl ?_
      | refine Cj.regionD rfl (mkD [0, 1, 2, 3, 4, 5, 6, 7, 8, 9, 10, 11, 12, 13, 14, 15, 16, 17, 18, 19, 20, 21, 22, 23, 24, 26, 28, 29, 30] []) [] [0, 1, 2, 3, 4, 5, 6, 7, 8, 9, 10, 11, 12, 13, 16, 17, 18, 19, 20, 21, 22, 23, 24, 25, 26, 14, 15, 27, 28, 29, 30] mixed (by decide +kernel) ?_
      | refine Cj.condF rfl rfl (Cj.skip rfl (Ej.go ?_ (fun _ _ h => h)))
      | (refine Cj.condF rfl rfl (Cj.skip rfl (Ej.back (fun _ _ h => h) (by repeat (first | exact .refl | apply DropTo.tail)) ?_)); repeat (first | exact trivial | refine ⟨rfl, ?_⟩))
      | refine Cj.condF rfl rfl ?_
      | refine Cj.condT rfl rfl ?_
      | refine Cj.exit rfl (Ej.go ?_ (fun _ _ h => h))
      | refine Cj.cond rfl rfl (fun h => ?_) (fun h => ?_)
      | refine Cj.skip rfl (Ej.go ?_ (fun _ _ h => h))
      | (refine Cj.skip rfl (Ej.back (fun _ _ h => h) (by repeat (first | exact .refl | apply DropTo.tail)) ?_); repeat (first | exact trivial | refine ⟨rfl, ?_⟩))
      | refine Cj.seq rfl ?_
      | refine Cj.region rfl ?_))
              refine Jl.nil (Ej.cutP (ι := Nat) _ _ _ _ (fun _ _ h => h) (k - 1) ⟨⟨by omega, hgo2⟩, by (try dsimp only); omega⟩ ⟨rfl, rfl, rfl, rfl, rfl, rfl, ?_, trivial⟩ (by repeat (first | exact .nil | refine Pick.cons (by repeat (first | exact .z | apply OutAt.s)) ?_)) (fun p hp => hp))
              show some (Value.int .i64 ((k : Int) - 1)) = some (.int .i64 ((k - 1 : Nat) : Int))
              rw [show ((k - 1 : Nat) : Int) = (k : Int) - 1 by omega]
            · have fin : (([] ++ s.take k) ++ [x]) ++ s.drop k = insR ltS s x := by
                rw [← hgo, htk2]
                unfold goI
                rw [if_neg (by unfold ltS; simpa using hc)]
                have := congrArg List.reverse htk2
                rw [List.reverse_reverse, List.reverse_cons, List.reverse_reverse] at this
                rw [this]; simp
              refine Cj.ws (ι := Unit) (fun _ => True) (fun _ => [.box g 25 [.int .i64 a.f0, .int .i64 a.f1, .int .i64 a.f2, .int .i64 a.f3, .bool a.f4]]) (fun _ => [(fun W => Kd.C k40 W (some ad1) (s.take k).length (s.take k)), (fun W => Kd.C k40 W (if c = ((k : Int)).toNat then (some ad1) else (some ad1).map (·.add (((k : Int)).toNat * 7))) (s.drop k).length (s.drop k)), (fun W => Kd.C k40 W (some ad1) s.length s), (fun W => Kd.C k40 W (some ad0) l.length l)]) (fun w' hW => ⟨(), trivial, ((hW.both (p := (fun W => Kd.C k40 W (some ad1) s.length s)) (q := (fun W => Kd.C k40 W (some ad1) s.length s)) (r := (fun W => Kd.C k40 W (if c = ((k : Int)).toNat then (some ad1) else (some ad1).map (·.add (((k : Int)).toNat * 7))) (s.drop k).length (s.drop k))) memH memH (fun W h _ => by rw [Int.toNat_natCast]; exact Kd.C_drop h hks hsc)).both (p := (fun W => Kd.C k40 W (some ad1) s.length s)) (q := (fun W => Kd.C k40 W (some ad1) s.length s)) (r := (fun W => Kd.C k40 W (some ad1) (s.take k).length (s.take k))) (memT memH) (memT memH) (fun W h _ => Kd.C_take h hks))⟩) (fun _ _ => ?_)
              repeat (first
    | (apply gateO; first
      | refine Jl.yd (Y.mv rfl rfl) rfl rfl rfl ?_
      | refine Jl.yd (Y.asg rfl rfl) rfl rfl rfl ?_
      | refine Jl.yd (Y.ext rfl rfl rfl) rfl rfl rfl ?_
      | refine Jl.yd (Y.pickT rfl rfl rfl) rfl rfl rfl ?_
      | refine Jl.yd (Y.pickF rfl rfl rfl) rfl rfl rfl ?_
      | refine Jl.off rfl rfl rfl ?_
      | refine Jl.yd (Y.cmpF rfl rfl rfl rfl (by omega)) rfl rfl rfl ?_
      | refine Jl.yd (Y.cmpT rfl rfl rfl rfl (by omega)) rfl rfl rfl ?_
      | refine Jl.yd (Y.neqB rfl rfl rfl Try.underlying4) rfl rfl rfl ?_
      | refine Jl.yd (Y.cmp rfl rfl rfl rfl) rfl rfl rfl ?_
      | refine Jl.yd (Y.not rfl rfl) rfl rfl rfl ?_
      | refine Jl.yd (Y.arithN rfl rfl rfl rfl (by omega)) rfl rfl rfl ?_
      | refine Jl.yd (Y.arith64 rfl rfl rfl rfl) rfl rfl rfl ?_
      | refine Jl.yd (Y.lenS Try.underlying46 rfl rfl rfl) rfl rfl rfl ?_
      | refine Jl.yd (Y.idx rfl rfl rfl el46 (by omega) (by omega)) rfl rfl rfl ?_
      | refine Jl.yd (Y.loadK1 z40 [.int .i64 y.f0, .int .i64 y.f1.f0, .int .i64 y.f1.f1, .int .i64 y.f1.f2, .int .i64 y.f1.f3, .bool y.f1.f4, .int .i64 y.f2] rfl rfl sc3 (by repeat (first | exact .head _ | refine .tail _ ?_)) (((k : Int) - 1)) 6 (by omega) (by omega) (by rfl) (fun w cs h => (k40_open h).trans huy) rfl) rfl rfl rfl ?_
      | refine Jl.yd (Y.loadKS z40 [.int .i64 y.f0, .int .i64 y.f1.f0, .int .i64 y.f1.f1, .int .i64 y.f1.f2, .int .i64 y.f1.f3, .bool y.f1.f4, .int .i64 y.f2] [.int .i64 y.f1.f0, .int .i64 y.f1.f1, .int .i64 y.f1.f2, .int .i64 y.f1.f3, .bool y.f1.f4] 1 rfl rfl agg25 (by repeat (first | exact .head _ | refine .tail _ ?_)) (((k : Int) - 1)) (by omega) (by omega) rfl (fun w cs h => (k40_open h).trans huy) rfl rfl) rfl rfl rfl ?_
      | refine Jl.yd (Y.loadK1 z40 [.int .i64 x.f0, .int .i64 x.f1.f0, .int .i64 x.f1.f1, .int .i64 x.f1.f2, .int .i64 x.f1.f3, .bool x.f1.f4, .int .i64 x.f2] rfl rfl sc3 (by repeat (first | exact .head _ | refine .tail _ ?_)) ((i : Int)) 6 (by omega) (by omega) (by rfl) (fun w cs h => (k40_open h).trans hus) rfl) rfl rfl rfl ?_
      | refine Jl.yd (Y.loadKS z40 [.int .i64 x.f0, .int .i64 x.f1.f0, .int .i64 x.f1.f1, .int .i64 x.f1.f2, .int .i64 x.f1.f3, .bool x.f1.f4, .int .i64 x.f2] [.int .i64 x.f1.f0, .int .i64 x.f1.f1, .int .i64 x.f1.f2, .int .i64 x.f1.f3, .bool x.f1.f4] 1 rfl rfl agg25 (by repeat (first | exact .head _ | refine .tail _ ?_)) ((i : Int)) (by omega) (by omega) rfl (fun w cs h => (k40_open h).trans hus) rfl rfl) rfl rfl rfl ?_
      | refine Jl.call1 (v := .int .i64 (bAx x.f1)) rfl rfl rfl rfl en54 rfl (fun w hW => by with_reducible first | exact spec_l24Base.calls x.f1.f0 x.f1.f1 x.f1.f2 x.f1.f3 x.f1.f4 (bAx x.f1) w hbx | exact Calls.mono (spec_l24Base.calls x.f1.f0 x.f1.f1 x.f1.f2 x.f1.f3 x.f1.f4 (bAx x.f1) w hbx) (fun _ _ hh => ⟨hh.1, hh.2.below⟩)) ?_
      | refine Jl.call1 (v := .int .i64 (bAx y.f1)) rfl rfl rfl rfl en54 rfl (fun w hW => by with_reducible first | exact spec_l24Base.calls y.f1.f0 y.f1.f1 y.f1.f2 y.f1.f3 y.f1.f4 (bAx y.f1) w hby | exact Calls.mono (spec_l24Base.calls y.f1.f0 y.f1.f1 y.f1.f2 y.f1.f3 y.f1.f4 (bAx y.f1) w hby) (fun _ _ hh => ⟨hh.1, hh.2.below⟩)) ?_
      | refine Jl.yd (Y.fld rfl rfl fld40_1) rfl rfl rfl ?_
      | refine Jl.yd (Y.fld rfl rfl fld40_2) rfl rfl rfl ?_
      | refine Jl.splitG rfl rfl (fun h => ?_) (fun h => ?_))
    | (apply gateE; first
      | refine Jl.nil (Ej.go ?_ (fun _ _ h => h))
      | (refine Jl.nil (Ej.back (fun _ _ h => h) (by repeat (first | exact .refl | apply DropTo.tail)) ?_); repeat (first | exact trivial | refine ⟨rfl, ?_⟩)))
    | (apply gateC; first
      | refine Cj.block rfl ?_
      | refine Cj.regionD rfl (mkD [0, 1, 2, 3, 4, 5, 6, 7, 8, 9, 10, 11, 12, 13, 14, 15, 16, 17, 18, 19, 20, 21, 22, 23, 24, 26, 28, 29, 30] []) [] [0, 1, 2, 3, 4, 5, 6, 7, 8, 9, 10, 11, 12, 13, 16, 17, 18, 19, 20, 21, 22, 23, 24, 25, 26, 14, 15, 27, 28, 29, 30] mixed (by decide +kernel) ?_
      | refine Cj.condF rfl rfl (Cj.skip rfl (Ej.go ?_ (fun _ _ h => h)))
      | (refine Cj.condF rfl rfl (Cj.skip rfl (Ej.back (fun _ _ h => h) (by repeat (first | exact .refl | apply DropTo.tail)) ?_)); repeat (first | exact trivial | refine ⟨rfl, ?_⟩))
      | refine Cj.condF rfl rfl ?_
      | refine Cj.condT rfl rfl ?_
      | refine Cj.exit rfl (Ej.go ?_ (fun _ _ h => h))
      | refine Cj.cond rfl rfl (fun h => ?_) (fun h => ?_)
      | refine Cj.skip rfl (Ej.go ?_ (fun _ _ h => h))
      | (refine Cj.skip rfl (Ej.back (fun _ _ h => h) (by repeat (first | exact .refl | apply DropTo.tail)) ?_); repeat (first | exact trivial | refine ⟨rfl, ?_⟩))
      | refine Cj.seq rfl ?_
      | refine Cj.region rfl ?_))
              refine Cj.regionJ rfl [0, 4, 8, 9, 10, 14] mixed ?_
              refine Jw.take 1 rfl (by decide +kernel) (by intro c a d v w h; cases d <;> exact h) (fun w => Y.mv rfl rfl) rfl rfl rfl ?_
              refine Jw.take 2 rfl (by decide +kernel) (by intro c a d v w h; cases d <;> exact h) (fun w => Y.mv rfl rfl) rfl rfl rfl ?_
              refine Jw.take 5 rfl (by decide +kernel) (by intro c a d v w h; cases d <;> exact h) (fun w => Y.mv rfl rfl) rfl rfl rfl ?_
              refine Jw.take 6 rfl (by decide +kernel) (by intro c a d v w h; cases d <;> exact h) (fun w => Y.mv rfl rfl) rfl rfl rfl ?_
              refine Jw.take 11 rfl (by decide +kernel) (by intro c a d v w h; cases d <;> exact h) (fun w => Y.mv rfl rfl) rfl rfl rfl ?_
              refine Jw.take 12 rfl (by decide +kernel) (by intro c a d v w h; cases d <;> exact h) (fun w => Y.mv rfl rfl) rfl rfl rfl ?_
              refine Jw.take 3 rfl (by decide +kernel) (by intro c a d v w h; cases d <;> exact h) (fun w => Y.sliTo rfl rfl rfl el46 (by omega) (by omega)) rfl rfl rfl ?_
              refine Jw.take 7 rfl (by decide +kernel) (by intro c a d v w h; cases d <;> exact h) (fun w => Y.idx rfl rfl rfl el46 (by omega) (by omega)) rfl rfl rfl ?_
              refine Jw.take 13 rfl (by decide +kernel) (by intro c a d v w h; cases d <;> exact h) (fun w => Y.sliFrom rfl rfl rfl el46 (by omega) (by omega)) rfl rfl rfl ?_
              refine Jw.br2 (mkD [] [0]) 0 8 rfl rfl (by decide +kernel) rfl rfl ?_ ?_
              · skip
                refine Jl.lit0 k40 rfl rfl rfl rfl el46 (fun g0 => ?_)
                refine Jl.jw ?_
                refine Jw.br2 (mkD [] [0]) 4 8 rfl rfl (by decide +kernel) rfl rfl ?_ ?_
                · skip
                  refine Jl.appF (enc := enc) flat40 (xs := []) (zs := s.take k) rfl rfl rfl rfl rfl rfl ap46 (by rw [List.length_take]; omega) (by repeat (first | exact memH | refine memT ?_)) (by repeat (first | exact .z | apply OutAt.s)) (by (try simp only [List.length_append, List.length_cons, List.length_nil, List.length_take, List.length_drop]); omega) (by (try simp only [List.length_append, List.length_cons, List.length_nil, List.length_take, List.length_drop]); omega) (fun A4 c4 h4 => ?_)
                  refine Jl.jw ?_
                  refine Jw.step (mkD [] [0]) 8 rfl (by decide +kernel) rfl rfl ?_
                  refine Jl.yd (Y.loadK z40 [.int .i64 x.f0, .int .i64 x.f1.f0, .int .i64 x.f1.f1, .int .i64 x.f1.f2, .int .i64 x.f1.f3, .bool x.f1.f4, .int .i64 x.f2] rfl rfl agg40 (by repeat (first | exact .head _ | refine .tail _ ?_)) ((i : Int)) (by omega) (by omega) (by rfl) (fun w cs h => (k40_open h).trans hus) (by rfl)) rfl rfl rfl ?_
                  refine Jl.jw ?_
                  refine Jw.step (mkD [] [0]) 9 rfl (by decide +kernel) rfl rfl ?_
                  refine Jl.litS (us := [.int .i64 x.f0, .int .i64 x.f1.f0, .int .i64 x.f1.f1, .int .i64 x.f1.f2, .int .i64 x.f1.f3, .bool x.f1.f4, .int .i64 x.f2]) (zs := [.int .i64 0, .int .i64 0, .int .i64 0, .int .i64 0, .int .i64 0, .bool false, .int .i64 0]) rfl rfl rfl rfl rfl el46 zero40 rfl rfl (fill7 _ _ _ _ _ _ _ _ _ _ _ _ _ _) (fun g9 => ?_)
                  refine Jl.jw ?_
                  refine Jw.step (mkD [] [0]) 10 rfl (by decide +kernel) rfl rfl ?_
                  refine Jl.app (dk := k40) (xs := [] ++ s.take k) x (fun _ => False) rfl rfl rfl rfl rfl rfl ap46 (by repeat (first | exact .head _ | refine .tail _ ?_)) rfl (fun w => k40_mkM w 0 (fun _ => False) x) (encO x) (by repeat (first | exact .z | apply OutAt.s)) (by (try simp only [List.length_append, List.length_cons, List.length_nil, List.length_take, List.length_drop]); omega) (by (try simp only [List.length_append, List.length_cons, List.length_nil, List.length_take, List.length_drop]); omega) (fun A10 c10 h10 => ?_)
                  refine Jl.jw ?_
                  refine Jw.step (mkD [] [0]) 14 rfl (by decide +kernel) rfl rfl ?_
                  refine Jl.appF (enc := enc) flat40 (xs := ([] ++ s.take k) ++ [x]) (zs := s.drop k) rfl rfl rfl rfl rfl rfl ap46 (by rw [List.length_drop]; omega) (by repeat (first | exact memH | refine memT ?_)) (by repeat (first | exact .z | apply OutAt.s)) (by (try simp only [List.length_append, List.length_cons, List.length_nil, List.length_take, List.length_drop]); omega) (by (try simp only [List.length_append, List.length_cons, List.length_nil, List.length_take, List.length_drop]); omega) (fun A14 c14 h14 => ?_)
                  refine Jl.jw ?_
                  refine Jw.take 15 rfl (by decide +kernel) (by intro c a d v w h; cases d <;> exact h) (fun w => Y.asg rfl rfl) rfl rfl rfl ?_
                  refine Jw.done (by decide +kernel) (Ej.go ?_ (fun _ _ h => h))
                  repeat (first
                      | (apply gateO; first
                        | refine Jl.yd (Y.mv rfl rfl) rfl rfl rfl ?_
                        | refine Jl.yd (Y.asg rfl rfl) rfl rfl rfl ?_
                        | refine Jl.yd (Y.ext rfl rfl rfl) rfl rfl rfl ?_
                        | refine Jl.yd (Y.pickT rfl rfl rfl) rfl rfl rfl ?_
                        | refine Jl.yd (Y.pickF rfl rfl rfl) rfl rfl rfl ?_
                        | refine Jl.off rfl rfl rfl ?_
                        | refine Jl.yd (Y.cmpF rfl rfl rfl rfl (by omega)) rfl rfl rfl ?_
                        | refine Jl.yd (Y.cmpT rfl rfl rfl rfl (by omega)) rfl rfl rfl ?_
                        | refine Jl.yd (Y.neqB rfl rfl rfl Try.underlying4) rfl rfl rfl ?_
                        | refine Jl.yd (Y.cmp rfl rfl rfl rfl) rfl rfl rfl ?_
                        | refine Jl.yd (Y.not rfl rfl) rfl rfl rfl ?_
                        | refine Jl.yd (Y.arithN rfl rfl rfl rfl (by omega)) rfl rfl rfl ?_
                        | refine Jl.yd (Y.arith64 rfl rfl rfl rfl) rfl rfl rfl ?_
                        | refine Jl.splitG rfl rfl (fun h => ?_) (fun h => ?_))
                      | (apply gateE; first
                        | refine Jl.nil (Ej.go ?_ (fun _ _ h => h))
                        | (refine Jl.nil (Ej.back (fun _ _ h => h) (by repeat (first | exact .refl | apply DropTo.tail)) ?_); repeat (first | exact trivial | refine ⟨rfl, ?_⟩)))
                      | (apply gateC; first
                        | refine Cj.block rfl ?_
                        | refine Cj.condF rfl rfl (Cj.skip rfl (Ej.go ?_ (fun _ _ h => h)))
                        | (refine Cj.condF rfl rfl (Cj.skip rfl (Ej.back (fun _ _ h => h) (by repeat (first | exact .refl | apply DropTo.tail)) ?_)); repeat (first | exact trivial | refine ⟨rfl, ?_⟩))
                        | refine Cj.condF rfl rfl ?_
                        | refine Cj.condT rfl rfl ?_
                        | refine Cj.exit rfl (Ej.go ?_ (fun _ _ h => h))
                        | refine Cj.cond rfl rfl (fun h => ?_) (fun h => ?_)
                        | refine Cj.skip rfl (Ej.go ?_ (fun _ _ h => h))
                        | (refine Cj.skip rfl (Ej.back (fun _ _ h => h) (by repeat (first | exact .refl | apply DropTo.tail)) ?_); repeat (first | exact trivial | refine ⟨rfl, ?_⟩))
                        | refine Cj.seq rfl ?_
                        | refine Cj.region rfl ?_))
                  refine Jl.nil (Ej.cutP (ι := Nat × Option Addr × Nat × List S40) _ _ _ _ (fun _ _ h => h) (i + 1, A14, c14, (([] ++ s.take k) ++ [x]) ++ s.drop k) ⟨⟨by omega, fin.trans hE, h14⟩, by dsimp only; omega⟩ ⟨rfl, rfl, rfl, rfl, rfl, rfl, trivial⟩ (by repeat (first | exact .nil | refine Pick.cons (by repeat (first | exact .z | apply OutAt.s)) ?_)) (fun p hp => by rw [List.mem_singleton.1 hp]; exact memT (memT (memT memH))))
                · skip
                  refine Jl.yd (Y.loadK z40 [.int .i64 x.f0, .int .i64 x.f1.f0, .int .i64 x.f1.f1, .int .i64 x.f1.f2, .int .i64 x.f1.f3, .bool x.f1.f4, .int .i64 x.f2] rfl rfl agg40 (by repeat (first | exact .head _ | refine .tail _ ?_)) ((i : Int)) (by omega) (by omega) (by rfl) (fun w cs h => (k40_open h).trans hus) (by rfl)) rfl rfl rfl ?_
                  refine Jl.jw ?_
                  refine Jw.br2 (mkD [] [0]) 4 9 rfl rfl (by decide +kernel) rfl rfl ?_ ?_
                  · skip
                    refine Jl.appF (enc := enc) flat40 (xs := []) (zs := s.take k) rfl rfl rfl rfl rfl rfl ap46 (by rw [List.length_take]; omega) (by repeat (first | exact memH | refine memT ?_)) (by repeat (first | exact .z | apply OutAt.s)) (by (try simp only [List.length_append, List.length_cons, List.length_nil, List.length_take, List.length_drop]); omega) (by (try simp only [List.length_append, List.length_cons, List.length_nil, List.length_take, List.length_drop]); omega) (fun A4 c4 h4 => ?_)
                    refine Jl.jw ?_
                    refine Jw.step (mkD [] [0]) 9 rfl (by decide +kernel) rfl rfl ?_
                    refine Jl.litS (us := [.int .i64 x.f0, .int .i64 x.f1.f0, .int .i64 x.f1.f1, .int .i64 x.f1.f2, .int .i64 x.f1.f3, .bool x.f1.f4, .int .i64 x.f2]) (zs := [.int .i64 0, .int .i64 0, .int .i64 0, .int .i64 0, .int .i64 0, .bool false, .int .i64 0]) rfl rfl rfl rfl rfl el46 zero40 rfl rfl (fill7 _ _ _ _ _ _ _ _ _ _ _ _ _ _) (fun g9 => ?_)
                    refine Jl.jw ?_
                    refine Jw.step (mkD [] [0]) 10 rfl (by decide +kernel) rfl rfl ?_
                    refine Jl.app (dk := k40) (xs := [] ++ s.take k) x (fun _ => False) rfl rfl rfl rfl rfl rfl ap46 (by repeat (first | exact .head _ | refine .tail _ ?_)) rfl (fun w => k40_mkM w 0 (fun _ => False) x) (encO x) (by repeat (first | exact .z | apply OutAt.s)) (by (try simp only [List.length_append, List.length_cons, List.length_nil, List.length_take, List.length_drop]); omega) (by (try simp only [List.length_append, List.length_cons, List.length_nil, List.length_take, List.length_drop]); omega) (fun A10 c10 h10 => ?_)
                    refine Jl.jw ?_
                    refine Jw.step (mkD [] [0]) 14 rfl (by decide +kernel) rfl rfl ?_
                    refine Jl.appF (enc := enc) flat40 (xs := ([] ++ s.take k) ++ [x]) (zs := s.drop k) rfl rfl rfl rfl rfl rfl ap46 (by rw [List.length_drop]; omega) (by repeat (first | exact memH | refine memT ?_)) (by repeat (first | exact .z | apply OutAt.s)) (by (try simp only [List.length_append, List.length_cons, List.length_nil, List.length_take, List.length_drop]); omega) (by (try simp only [List.length_append, List.length_cons, List.length_nil, List.length_take, List.length_drop]); omega) (fun A14 c14 h14 => ?_)
                    refine Jl.jw ?_
                    refine Jw.take 15 rfl (by decide +kernel) (by intro c a d v w h; cases d <;> exact h) (fun w => Y.asg rfl rfl) rfl rfl rfl ?_
                    refine Jw.done (by decide +kernel) (Ej.go ?_ (fun _ _ h => h))
                    repeat (first
                        | (apply gateO; first
                          | refine Jl.yd (Y.mv rfl rfl) rfl rfl rfl ?_
                          | refine Jl.yd (Y.asg rfl rfl) rfl rfl rfl ?_
                          | refine Jl.yd (Y.ext rfl rfl rfl) rfl rfl rfl ?_
                          | refine Jl.yd (Y.pickT rfl rfl rfl) rfl rfl rfl ?_
                          | refine Jl.yd (Y.pickF rfl rfl rfl) rfl rfl rfl ?_
                          | refine Jl.off rfl rfl rfl ?_
                          | refine Jl.yd (Y.cmpF rfl rfl rfl rfl (by omega)) rfl rfl rfl ?_
                          | refine Jl.yd (Y.cmpT rfl rfl rfl rfl (by omega)) rfl rfl rfl ?_
                          | refine Jl.yd (Y.neqB rfl rfl rfl Try.underlying4) rfl rfl rfl ?_
                          | refine Jl.yd (Y.cmp rfl rfl rfl rfl) rfl rfl rfl ?_
                          | refine Jl.yd (Y.not rfl rfl) rfl rfl rfl ?_
                          | refine Jl.yd (Y.arithN rfl rfl rfl rfl (by omega)) rfl rfl rfl ?_
                          | refine Jl.yd (Y.arith64 rfl rfl rfl rfl) rfl rfl rfl ?_
                          | refine Jl.splitG rfl rfl (fun h => ?_) (fun h => ?_))
                        | (apply gateE; first
                          | refine Jl.nil (Ej.go ?_ (fun _ _ h => h))
                          | (refine Jl.nil (Ej.back (fun _ _ h => h) (by repeat (first | exact .refl | apply DropTo.tail)) ?_); repeat (first | exact trivial | refine ⟨rfl, ?_⟩)))
                        | (apply gateC; first
                          | refine Cj.block rfl ?_
                          | refine Cj.condF rfl rfl (Cj.skip rfl (Ej.go ?_ (fun _ _ h => h)))
                          | (refine Cj.condF rfl rfl (Cj.skip rfl (Ej.back (fun _ _ h => h) (by repeat (first | exact .refl | apply DropTo.tail)) ?_)); repeat (first | exact trivial | refine ⟨rfl, ?_⟩))
                          | refine Cj.condF rfl rfl ?_
                          | refine Cj.condT rfl rfl ?_
                          | refine Cj.exit rfl (Ej.go ?_ (fun _ _ h => h))
                          | refine Cj.cond rfl rfl (fun h => ?_) (fun h => ?_)
                          | refine Cj.skip rfl (Ej.go ?_ (fun _ _ h => h))
                          | (refine Cj.skip rfl (Ej.back (fun _ _ h => h) (by repeat (first | exact .refl | apply DropTo.tail)) ?_); repeat (first | exact trivial | refine ⟨rfl, ?_⟩))
                          | refine Cj.seq rfl ?_
                          | refine Cj.region rfl ?_))
                    refine Jl.nil (Ej.cutP (ι := Nat × Option Addr × Nat × List S40) _ _ _ _ (fun _ _ h => h) (i + 1, A14, c14, (([] ++ s.take k) ++ [x]) ++ s.drop k) ⟨⟨by omega, fin.trans hE, h14⟩, by dsimp only; omega⟩ ⟨rfl, rfl, rfl, rfl, rfl, rfl, trivial⟩ (by repeat (first | exact .nil | refine Pick.cons (by repeat (first | exact .z | apply OutAt.s)) ?_)) (fun p hp => by rw [List.mem_singleton.1 hp]; exact memT (memT (memT memH))))
                  · skip
                    refine Jl.litS (us := [.int .i64 x.f0, .int .i64 x.f1.f0, .int .i64 x.f1.f1, .int .i64 x.f1.f2, .int .i64 x.f1.f3, .bool x.f1.f4, .int .i64 x.f2]) (zs := [.int .i64 0, .int .i64 0, .int .i64 0, .int .i64 0, .int .i64 0, .bool false, .int .i64 0]) rfl rfl rfl rfl rfl el46 zero40 rfl rfl (fill7 _ _ _ _ _ _ _ _ _ _ _ _ _ _) (fun g9 => ?_)
                    refine Jl.jw ?_
                    refine Jw.step (mkD [] [0]) 4 rfl (by decide +kernel) rfl rfl ?_
                    refine Jl.appF (enc := enc) flat40 (xs := []) (zs := s.take k) rfl rfl rfl rfl rfl rfl ap46 (by rw [List.length_take]; omega) (by repeat (first | exact memH | refine memT ?_)) (by repeat (first | exact .z | apply OutAt.s)) (by (try simp only [List.length_append, List.length_cons, List.length_nil, List.length_take, List.length_drop]); omega) (by (try simp only [List.length_append, List.length_cons, List.length_nil, List.length_take, List.length_drop]); omega) (fun A4 c4 h4 => ?_)
                    refine Jl.jw ?_
                    refine Jw.step (mkD [] [0]) 10 rfl (by decide +kernel) rfl rfl ?_
                    refine Jl.app (dk := k40) (xs := [] ++ s.take k) x (fun _ => False) rfl rfl rfl rfl rfl rfl ap46 (by repeat (first | exact .head _ | refine .tail _ ?_)) rfl (fun w => k40_mkM w 0 (fun _ => False) x) (encO x) (by repeat (first | exact .z | apply OutAt.s)) (by (try simp only [List.length_append, List.length_cons, List.length_nil, List.length_take, List.length_drop]); omega) (by (try simp only [List.length_append, List.length_cons, List.length_nil, List.length_take, List.length_drop]); omega) (fun A10 c10 h10 => ?_)
                    refine Jl.jw ?_
                    refine Jw.step (mkD [] [0]) 14 rfl (by decide +kernel) rfl rfl ?_
                    refine Jl.appF (enc := enc) flat40 (xs := ([] ++ s.take k) ++ [x]) (zs := s.drop k) rfl rfl rfl rfl rfl rfl ap46 (by rw [List.length_drop]; omega) (by repeat (first | exact memH | refine memT ?_)) (by repeat (first | exact .z | apply OutAt.s)) (by (try simp only [List.length_append, List.length_cons, List.length_nil, List.length_take, List.length_drop]); omega) (by (try simp only [List.length_append, List.length_cons, List.length_nil, List.length_take, List.length_drop]); omega) (fun A14 c14 h14 => ?_)
                    refine Jl.jw ?_
                    refine Jw.take 15 rfl (by decide +kernel) (by intro c a d v w h; cases d <;> exact h) (fun w => Y.asg rfl rfl) rfl rfl rfl ?_
                    refine Jw.done (by decide +kernel) (Ej.go ?_ (fun _ _ h => h))
                    repeat (first
                        | (apply gateO; first
                          | refine Jl.yd (Y.mv rfl rfl) rfl rfl rfl ?_
                          | refine Jl.yd (Y.asg rfl rfl) rfl rfl rfl ?_
                          | refine Jl.yd (Y.ext rfl rfl rfl) rfl rfl rfl ?_
                          | refine Jl.yd (Y.pickT rfl rfl rfl) rfl rfl rfl ?_
                          | refine Jl.yd (Y.pickF rfl rfl rfl) rfl rfl rfl ?_
                          | refine Jl.off rfl rfl rfl ?_
                          | refine Jl.yd (Y.cmpF rfl rfl rfl rfl (by omega)) rfl rfl rfl ?_
                          | refine Jl.yd (Y.cmpT rfl rfl rfl rfl (by omega)) rfl rfl rfl ?_
                          | refine Jl.yd (Y.neqB rfl rfl rfl Try.underlying4) rfl rfl rfl ?_
                          | refine Jl.yd (Y.cmp rfl rfl rfl rfl) rfl rfl rfl ?_
                          | refine Jl.yd (Y.not rfl rfl) rfl rfl rfl ?_
                          | refine Jl.yd (Y.arithN rfl rfl rfl rfl (by omega)) rfl rfl rfl ?_
                          | refine Jl.yd (Y.arith64 rfl rfl rfl rfl) rfl rfl rfl ?_
                          | refine Jl.splitG rfl rfl (fun h => ?_) (fun h => ?_))
                        | (apply gateE; first
                          | refine Jl.nil (Ej.go ?_ (fun _ _ h => h))
                          | (refine Jl.nil (Ej.back (fun _ _ h => h) (by repeat (first | exact .refl | apply DropTo.tail)) ?_); repeat (first | exact trivial | refine ⟨rfl, ?_⟩)))
                        | (apply gateC; first
                          | refine Cj.block rfl ?_
                          | refine Cj.condF rfl rfl (Cj.skip rfl (Ej.go ?_ (fun _ _ h => h)))
                          | (refine Cj.condF rfl rfl (Cj.skip rfl (Ej.back (fun _ _ h => h) (by repeat (first | exact .refl | apply DropTo.tail)) ?_)); repeat (first | exact trivial | refine ⟨rfl, ?_⟩))
                          | refine Cj.condF rfl rfl ?_
                          | refine Cj.condT rfl rfl ?_
                          | refine Cj.exit rfl (Ej.go ?_ (fun _ _ h => h))
                          | refine Cj.cond rfl rfl (fun h => ?_) (fun h => ?_)
                          | refine Cj.skip rfl (Ej.go ?_ (fun _ _ h => h))
                          | (refine Cj.skip rfl (Ej.back (fun _ _ h => h) (by repeat (first | exact .refl | apply DropTo.tail)) ?_); repeat (first | exact trivial | refine ⟨rfl, ?_⟩))
                          | refine Cj.seq rfl ?_
                          | refine Cj.region rfl ?_))
                    refine Jl.nil (Ej.cutP (ι := Nat × Option Addr × Nat × List S40) _ _ _ _ (fun _ _ h => h) (i + 1, A14, c14, (([] ++ s.take k) ++ [x]) ++ s.drop k) ⟨⟨by omega, fin.trans hE, h14⟩, by dsimp only; omega⟩ ⟨rfl, rfl, rfl, rfl, rfl, rfl, trivial⟩ (by repeat (first | exact .nil | refine Pick.cons (by repeat (first | exact .z | apply OutAt.s)) ?_)) (fun p hp => by rw [List.mem_singleton.1 hp]; exact memT (memT (memT memH))))
              · skip
                refine Jl.yd (Y.loadK z40 [.int .i64 x.f0, .int .i64 x.f1.f0, .int .i64 x.f1.f1, .int .i64 x.f1.f2, .int .i64 x.f1.f3, .bool x.f1.f4, .int .i64 x.f2] rfl rfl agg40 (by repeat (first | exact .head _ | refine .tail _ ?_)) ((i : Int)) (by omega) (by omega) (by rfl) (fun w cs h => (k40_open h).trans hus) (by rfl)) rfl rfl rfl ?_
                refine Jl.jw ?_
                refine Jw.br2 (mkD [] [0]) 0 9 rfl rfl (by decide +kernel) rfl rfl ?_ ?_
                · skip
                  refine Jl.lit0 k40 rfl rfl rfl rfl el46 (fun g0 => ?_)
                  refine Jl.jw ?_
                  refine Jw.br2 (mkD [] [0]) 4 9 rfl rfl (by decide +kernel) rfl rfl ?_ ?_
                  · skip
                    refine Jl.appF (enc := enc) flat40 (xs := []) (zs := s.take k) rfl rfl rfl rfl rfl rfl ap46 (by rw [List.length_take]; omega) (by repeat (first | exact memH | refine memT ?_)) (by repeat (first | exact .z | apply OutAt.s)) (by (try simp only [List.length_append, List.length_cons, List.length_nil, List.length_take, List.length_drop]); omega) (by (try simp only [List.length_append, List.length_cons, List.length_nil, List.length_take, List.length_drop]); omega) (fun A4 c4 h4 => ?_)
                    refine Jl.jw ?_
                    refine Jw.step (mkD [] [0]) 9 rfl (by decide +kernel) rfl rfl ?_
                    refine Jl.litS (us := [.int .i64 x.f0, .int .i64 x.f1.f0, .int .i64 x.f1.f1, .int .i64 x.f1.f2, .int .i64 x.f1.f3, .bool x.f1.f4, .int .i64 x.f2]) (zs := [.int .i64 0, .int .i64 0, .int .i64 0, .int .i64 0, .int .i64 0, .bool false, .int .i64 0]) rfl rfl rfl rfl rfl el46 zero40 rfl rfl (fill7 _ _ _ _ _ _ _ _ _ _ _ _ _ _) (fun g9 => ?_)
                    refine Jl.jw ?_
                    refine Jw.step (mkD [] [0]) 10 rfl (by decide +kernel) rfl rfl ?_
                    refine Jl.app (dk := k40) (xs := [] ++ s.take k) x (fun _ => False) rfl rfl rfl rfl rfl rfl ap46 (by repeat (first | exact .head _ | refine .tail _ ?_)) rfl (fun w => k40_mkM w 0 (fun _ => False) x) (encO x) (by repeat (first | exact .z | apply OutAt.s)) (by (try simp only [List.length_append, List.length_cons, List.length_nil, List.length_take, List.length_drop]); omega) (by (try simp only [List.length_append, List.length_cons, List.length_nil, List.length_take, List.length_drop]); omega) (fun A10 c10 h10 => ?_)
                    refine Jl.jw ?_
                    refine Jw.step (mkD [] [0]) 14 rfl (by decide +kernel) rfl rfl ?_
                    refine Jl.appF (enc := enc) flat40 (xs := ([] ++ s.take k) ++ [x]) (zs := s.drop k) rfl rfl rfl rfl rfl rfl ap46 (by rw [List.length_drop]; omega) (by repeat (first | exact memH | refine memT ?_)) (by repeat (first | exact .z | apply OutAt.s)) (by (try simp only [List.length_append, List.length_cons, List.length_nil, List.length_take, List.length_drop]); omega) (by (try simp only [List.length_append, List.length_cons, List.length_nil, List.length_take, List.length_drop]); omega) (fun A14 c14 h14 => ?_)
                    refine Jl.jw ?_
                    refine Jw.take 15 rfl (by decide +kernel) (by intro c a d v w h; cases d <;> exact h) (fun w => Y.asg rfl rfl) rfl rfl rfl ?_
                    refine Jw.done (by decide +kernel) (Ej.go ?_ (fun _ _ h => h))
                    repeat (first
                        | (apply gateO; first
                          | refine Jl.yd (Y.mv rfl rfl) rfl rfl rfl ?_
                          | refine Jl.yd (Y.asg rfl rfl) rfl rfl rfl ?_
                          | refine Jl.yd (Y.ext rfl rfl rfl) rfl rfl rfl ?_
                          | refine Jl.yd (Y.pickT rfl rfl rfl) rfl rfl rfl ?_
                          | refine Jl.yd (Y.pickF rfl rfl rfl) rfl rfl rfl ?_
                          | refine Jl.off rfl rfl rfl ?_
                          | refine Jl.yd (Y.cmpF rfl rfl rfl rfl (by omega)) rfl rfl rfl ?_
                          | refine Jl.yd (Y.cmpT rfl rfl rfl rfl (by omega)) rfl rfl rfl ?_
                          | refine Jl.yd (Y.neqB rfl rfl rfl Try.underlying4) rfl rfl rfl ?_
                          | refine Jl.yd (Y.cmp rfl rfl rfl rfl) rfl rfl rfl ?_
                          | refine Jl.yd (Y.not rfl rfl) rfl rfl rfl ?_
                          | refine Jl.yd (Y.arithN rfl rfl rfl rfl (by omega)) rfl rfl rfl ?_
                          | refine Jl.yd (Y.arith64 rfl rfl rfl rfl) rfl rfl rfl ?_
                          | refine Jl.splitG rfl rfl (fun h => ?_) (fun h => ?_))
                        | (apply gateE; first
                          | refine Jl.nil (Ej.go ?_ (fun _ _ h => h))
                          | (refine Jl.nil (Ej.back (fun _ _ h => h) (by repeat (first | exact .refl | apply DropTo.tail)) ?_); repeat (first | exact trivial | refine ⟨rfl, ?_⟩)))
                        | (apply gateC; first
                          | refine Cj.block rfl ?_
                          | refine Cj.condF rfl rfl (Cj.skip rfl (Ej.go ?_ (fun _ _ h => h)))
                          | (refine Cj.condF rfl rfl (Cj.skip rfl (Ej.back (fun _ _ h => h) (by repeat (first | exact .refl | apply DropTo.tail)) ?_)); repeat (first | exact trivial | refine ⟨rfl, ?_⟩))
                          | refine Cj.condF rfl rfl ?_
                          | refine Cj.condT rfl rfl ?_
                          | refine Cj.exit rfl (Ej.go ?_ (fun _ _ h => h))
                          | refine Cj.cond rfl rfl (fun h => ?_) (fun h => ?_)
                          | refine Cj.skip rfl (Ej.go ?_ (fun _ _ h => h))
                          | (refine Cj.skip rfl (Ej.back (fun _ _ h => h) (by repeat (first | exact .refl | apply DropTo.tail)) ?_); repeat (first | exact trivial | refine ⟨rfl, ?_⟩))
                          | refine Cj.seq rfl ?_
                          | refine Cj.region rfl ?_))
                    refine Jl.nil (Ej.cutP (ι := Nat × Option Addr × Nat × List S40) _ _ _ _ (fun _ _ h => h) (i + 1, A14, c14, (([] ++ s.take k) ++ [x]) ++ s.drop k) ⟨⟨by omega, fin.trans hE, h14⟩, by dsimp only; omega⟩ ⟨rfl, rfl, rfl, rfl, rfl, rfl, trivial⟩ (by repeat (first | exact .nil | refine Pick.cons (by repeat (first | exact .z | apply OutAt.s)) ?_)) (fun p hp => by rw [List.mem_singleton.1 hp]; exact memT (memT (memT memH))))
                  · skip
                    refine Jl.litS (us := [.int .i64 x.f0, .int .i64 x.f1.f0, .int .i64 x.f1.f1, .int .i64 x.f1.f2, .int .i64 x.f1.f3, .bool x.f1.f4, .int .i64 x.f2]) (zs := [.int .i64 0, .int .i64 0, .int .i64 0, .int .i64 0, .int .i64 0, .bool false, .int .i64 0]) rfl rfl rfl rfl rfl el46 zero40 rfl rfl (fill7 _ _ _ _ _ _ _ _ _ _ _ _ _ _) (fun g9 => ?_)
                    refine Jl.jw ?_
                    refine Jw.step (mkD [] [0]) 4 rfl (by decide +kernel) rfl rfl ?_
                    refine Jl.appF (enc := enc) flat40 (xs := []) (zs := s.take k) rfl rfl rfl rfl rfl rfl ap46 (by rw [List.length_take]; omega) (by repeat (first | exact memH | refine memT ?_)) (by repeat (first | exact .z | apply OutAt.s)) (by (try simp only [List.length_append, List.length_cons, List.length_nil, List.length_take, List.length_drop]); omega) (by (try simp only [List.length_append, List.length_cons, List.length_nil, List.length_take, List.length_drop]); omega) (fun A4 c4 h4 => ?_)
                    refine Jl.jw ?_
                    refine Jw.step (mkD [] [0]) 10 rfl (by decide +kernel) rfl rfl ?_
                    refine Jl.app (dk := k40) (xs := [] ++ s.take k) x (fun _ => False) rfl rfl rfl rfl rfl rfl ap46 (by repeat (first | exact .head _ | refine .tail _ ?_)) rfl (fun w => k40_mkM w 0 (fun _ => False) x) (encO x) (by repeat (first | exact .z | apply OutAt.s)) (by (try simp only [List.length_append, List.length_cons, List.length_nil, List.length_take, List.length_drop]); omega) (by (try simp only [List.length_append, List.length_cons, List.length_nil, List.length_take, List.length_drop]); omega) (fun A10 c10 h10 => ?_)
                    refine Jl.jw ?_
                    refine Jw.step (mkD [] [0]) 14 rfl (by decide +kernel) rfl rfl ?_
                    refine Jl.appF (enc := enc) flat40 (xs := ([] ++ s.take k) ++ [x]) (zs := s.drop k) rfl rfl rfl rfl rfl rfl ap46 (by rw [List.length_drop]; omega) (by repeat (first | exact memH | refine memT ?_)) (by repeat (first | exact .z | apply OutAt.s)) (by (try simp only [List.length_append, List.length_cons, List.length_nil, List.length_take, List.length_drop]); omega) (by (try simp only [List.length_append, List.length_cons, List.length_nil, List.length_take, List.length_drop]); omega) (fun A14 c14 h14 => ?_)
                    refine Jl.jw ?_
                    refine Jw.take 15 rfl (by decide +kernel) (by intro c a d v w h; cases d <;> exact h) (fun w => Y.asg rfl rfl) rfl rfl rfl ?_
                    refine Jw.done (by decide +kernel) (Ej.go ?_ (fun _ _ h => h))
                    repeat (first
                        | (apply gateO; first
                          | refine Jl.yd (Y.mv rfl rfl) rfl rfl rfl ?_
                          | refine Jl.yd (Y.asg rfl rfl) rfl rfl rfl ?_
                          | refine Jl.yd (Y.ext rfl rfl rfl) rfl rfl rfl ?_
                          | refine Jl.yd (Y.pickT rfl rfl rfl) rfl rfl rfl ?_
                          | refine Jl.yd (Y.pickF rfl rfl rfl) rfl rfl rfl ?_
                          | refine Jl.off rfl rfl rfl ?_
                          | refine Jl.yd (Y.cmpF rfl rfl rfl rfl (by omega)) rfl rfl rfl ?_
                          | refine Jl.yd (Y.cmpT rfl rfl rfl rfl (by omega)) rfl rfl rfl ?_
                          | refine Jl.yd (Y.neqB rfl rfl rfl Try.underlying4) rfl rfl rfl ?_
                          | refine Jl.yd (Y.cmp rfl rfl rfl rfl) rfl rfl rfl ?_
                          | refine Jl.yd (Y.not rfl rfl) rfl rfl rfl ?_
                          | refine Jl.yd (Y.arithN rfl rfl rfl rfl (by omega)) rfl rfl rfl ?_
                          | refine Jl.yd (Y.arith64 rfl rfl rfl rfl) rfl rfl rfl ?_
                          | refine Jl.splitG rfl rfl (fun h => ?_) (fun h => ?_))
                        | (apply gateE; first
                          | refine Jl.nil (Ej.go ?_ (fun _ _ h => h))
                          | (refine Jl.nil (Ej.back (fun _ _ h => h) (by repeat (first | exact .refl | apply DropTo.tail)) ?_); repeat (first | exact trivial | refine ⟨rfl, ?_⟩)))
                        | (apply gateC; first
                          | refine Cj.block rfl ?_
                          | refine Cj.condF rfl rfl (Cj.skip rfl (Ej.go ?_ (fun _ _ h => h)))
                          | (refine Cj.condF rfl rfl (Cj.skip rfl (Ej.back (fun _ _ h => h) (by repeat (first | exact .refl | apply DropTo.tail)) ?_)); repeat (first | exact trivial | refine ⟨rfl, ?_⟩))
                          | refine Cj.condF rfl rfl ?_
                          | refine Cj.condT rfl rfl ?_
                          | refine Cj.exit rfl (Ej.go ?_ (fun _ _ h => h))
                          | refine Cj.cond rfl rfl (fun h => ?_) (fun h => ?_)
                          | refine Cj.skip rfl (Ej.go ?_ (fun _ _ h => h))
                          | (refine Cj.skip rfl (Ej.back (fun _ _ h => h) (by repeat (first | exact .refl | apply DropTo.tail)) ?_); repeat (first | exact trivial | refine ⟨rfl, ?_⟩))
                          | refine Cj.seq rfl ?_
                          | refine Cj.region rfl ?_))
                    refine Jl.nil (Ej.cutP (ι := Nat × Option Addr × Nat × List S40) _ _ _ _ (fun _ _ h => h) (i + 1, A14, c14, (([] ++ s.take k) ++ [x]) ++ s.drop k) ⟨⟨by omega, fin.trans hE, h14⟩, by dsimp only; omega⟩ ⟨rfl, rfl, rfl, rfl, rfl, rfl, trivial⟩ (by repeat (first | exact .nil | refine Pick.cons (by repeat (first | exact .z | apply OutAt.s)) ?_)) (fun p hp => by rw [List.mem_singleton.1 hp]; exact memT (memT (memT memH))))
                · skip
                  refine Jl.litS (us := [.int .i64 x.f0, .int .i64 x.f1.f0, .int .i64 x.f1.f1, .int .i64 x.f1.f2, .int .i64 x.f1.f3, .bool x.f1.f4, .int .i64 x.f2]) (zs := [.int .i64 0, .int .i64 0, .int .i64 0, .int .i64 0, .int .i64 0, .bool false, .int .i64 0]) rfl rfl rfl rfl rfl el46 zero40 rfl rfl (fill7 _ _ _ _ _ _ _ _ _ _ _ _ _ _) (fun g9 => ?_)
                  refine Jl.jw ?_
                  refine Jw.step (mkD [] [0]) 0 rfl (by decide +kernel) rfl rfl ?_
                  refine Jl.lit0 k40 rfl rfl rfl rfl el46 (fun g0 => ?_)
                  refine Jl.jw ?_
                  refine Jw.step (mkD [] [0]) 4 rfl (by decide +kernel) rfl rfl ?_
                  refine Jl.appF (enc := enc) flat40 (xs := []) (zs := s.take k) rfl rfl rfl rfl rfl rfl ap46 (by rw [List.length_take]; omega) (by repeat (first | exact memH | refine memT ?_)) (by repeat (first | exact .z | apply OutAt.s)) (by (try simp only [List.length_append, List.length_cons, List.length_nil, List.length_take, List.length_drop]); omega) (by (try simp only [List.length_append, List.length_cons, List.length_nil, List.length_take, List.length_drop]); omega) (fun A4 c4 h4 => ?_)
                  refine Jl.jw ?_
                  refine Jw.step (mkD [] [0]) 10 rfl (by decide +kernel) rfl rfl ?_
                  refine Jl.app (dk := k40) (xs := [] ++ s.take k) x (fun _ => False) rfl rfl rfl rfl rfl rfl ap46 (by repeat (first | exact .head _ | refine .tail _ ?_)) rfl (fun w => k40_mkM w 0 (fun _ => False) x) (encO x) (by repeat (first | exact .z | apply OutAt.s)) (by (try simp only [List.length_append, List.length_cons, List.length_nil, List.length_take, List.length_drop]); omega) (by (try simp only [List.length_append, List.length_cons, List.length_nil, List.length_take, List.length_drop]); omega) (fun A10 c10 h10 => ?_)
                  refine Jl.jw ?_
                  refine Jw.step (mkD [] [0]) 14 rfl (by decide +kernel) rfl rfl ?_
                  refine Jl.appF (enc := enc) flat40 (xs := ([] ++ s.take k) ++ [x]) (zs := s.drop k) rfl rfl rfl rfl rfl rfl ap46 (by rw [List.length_drop]; omega) (by repeat (first | exact memH | refine memT ?_)) (by repeat (first | exact .z | apply OutAt.s)) (by (try simp only [List.length_append, List.length_cons, List.length_nil, List.length_take, List.length_drop]); omega) (by (try simp only [List.length_append, List.length_cons, List.length_nil, List.length_take, List.length_drop]); omega) (fun A14 c14 h14 => ?_)
                  refine Jl.jw ?_
                  refine Jw.take 15 rfl (by decide +kernel) (by intro c a d v w h; cases d <;> exact h) (fun w => Y.asg rfl rfl) rfl rfl rfl ?_
                  refine Jw.done (by decide +kernel) (Ej.go ?_ (fun _ _ h => h))
                  repeat (first
                      | (apply gateO; first
                        | refine Jl.yd (Y.mv rfl rfl) rfl rfl rfl ?_
                        | refine Jl.yd (Y.asg rfl rfl) rfl rfl rfl ?_
                        | refine Jl.yd (Y.ext rfl rfl rfl) rfl rfl rfl ?_
                        | refine Jl.yd (Y.pickT rfl rfl rfl) rfl rfl rfl ?_
                        | refine Jl.yd (Y.pickF rfl rfl rfl) rfl rfl rfl ?_
                        | refine Jl.off rfl rfl rfl ?_
                        | refine Jl.yd (Y.cmpF rfl rfl rfl rfl (by omega)) rfl rfl rfl ?_
                        | refine Jl.yd (Y.cmpT rfl rfl rfl rfl (by omega)) rfl rfl rfl ?_
                        | refine Jl.yd (Y.neqB rfl rfl rfl Try.underlying4) rfl rfl rfl ?_
                        | refine Jl.yd (Y.cmp rfl rfl rfl rfl) rfl rfl rfl ?_
                        | refine Jl.yd (Y.not rfl rfl) rfl rfl rfl ?_
                        | refine Jl.yd (Y.arithN rfl rfl rfl rfl (by omega)) rfl rfl rfl ?_
                        | refine Jl.yd (Y.arith64 rfl rfl rfl rfl) rfl rfl rfl ?_
                        | refine Jl.splitG rfl rfl (fun h => ?_) (fun h => ?_))
                      | (apply gateE; first
                        | refine Jl.nil (Ej.go ?_ (fun _ _ h => h))
                        | (refine Jl.nil (Ej.back (fun _ _ h => h) (by repeat (first | exact .refl | apply DropTo.tail)) ?_); repeat (first | exact trivial | refine ⟨rfl, ?_⟩)))
                      | (apply gateC; first
                        | refine Cj.block rfl ?_
                        | refine Cj.condF rfl rfl (Cj.skip rfl (Ej.go ?_ (fun _ _ h => h)))
                        | (refine Cj.condF rfl rfl (Cj.skip rfl (Ej.back (fun _ _ h => h) (by repeat (first | exact .refl | apply DropTo.tail)) ?_)); repeat (first | exact trivial | refine ⟨rfl, ?_⟩))
                        | refine Cj.condF rfl rfl ?_
                        | refine Cj.condT rfl rfl ?_
                        | refine Cj.exit rfl (Ej.go ?_ (fun _ _ h => h))
                        | refine Cj.cond rfl rfl (fun h => ?_) (fun h => ?_)
                        | refine Cj.skip rfl (Ej.go ?_ (fun _ _ h => h))
                        | (refine Cj.skip rfl (Ej.back (fun _ _ h => h) (by repeat (first | exact .refl | apply DropTo.tail)) ?_); repeat (first | exact trivial | refine ⟨rfl, ?_⟩))
                        | refine Cj.seq rfl ?_
                        | refine Cj.region rfl ?_))
                  refine Jl.nil (Ej.cutP (ι := Nat × Option Addr × Nat × List S40) _ _ _ _ (fun _ _ h => h) (i + 1, A14, c14, (([] ++ s.take k) ++ [x]) ++ s.drop k) ⟨⟨by omega, fin.trans hE, h14⟩, by dsimp only; omega⟩ ⟨rfl, rfl, rfl, rfl, rfl, rfl, trivial⟩ (by repeat (first | exact .nil | refine Pick.cons (by repeat (first | exact .z | apply OutAt.s)) ?_)) (fun p hp => by rw [List.mem_singleton.1 hp]; exact memT (memT (memT memH))))
      · obtain rfl : i = l.length := by omega
        rw [List.take_length] at hs
        refine Cj.ws (ι := Unit) (fun _ => s.length ≠ 0 → ∃ ad, A = some ad) (fun _ => [.box g 25 [.int .i64 a.f0, .int .i64 a.f1, .int .i64 a.f2, .int .i64 a.f3, .bool a.f4]]) (fun _ => [(fun W => Kd.C k40 W A s.length s), (fun W => Kd.C k40 W A0 l.length l)]) (fun w' hW => ⟨(), (fun h0 => by
            obtain ⟨ad, e, _⟩ := (hW.rowC memH).2.2 (by omega)
            exact ⟨ad, e⟩), (hW.freeze (n := 0) rfl (p := (fun W => Kd.C k40 W A s.length s)) (fun W A' hA' => (Kd.R_reads' hA'.1).2.2))⟩) (fun _ hAn => ?_)
        by_cases hz : s.length = 0
        · have hE : estF l a = (0, false) := by unfold estF; rw [hg, ha, if_pos (show (true && true) = true from rfl), ← hs, if_pos hz]
          repeat (first
    | (apply gateO; first
      | refine Jl.yd (Y.mv rfl rfl) rfl rfl rfl ?_
      | refine Jl.yd (Y.asg rfl rfl) rfl rfl rfl ?_
      | refine Jl.yd (Y.ext rfl rfl rfl) rfl rfl rfl ?_
      | refine Jl.yd (Y.pickT rfl rfl rfl) rfl rfl rfl ?_
      | refine Jl.yd (Y.pickF rfl rfl rfl) rfl rfl rfl ?_
      | refine Jl.off rfl rfl rfl ?_
      | refine Jl.yd (Y.cmpF rfl rfl rfl rfl (by omega)) rfl rfl rfl ?_
      | refine Jl.yd (Y.cmpT rfl rfl rfl rfl (by omega)) rfl rfl rfl ?_
      | refine Jl.yd (Y.neqB rfl rfl rfl Try.underlying4) rfl rfl rfl ?_
      | refine Jl.yd (Y.cmp rfl rfl rfl rfl) rfl rfl rfl ?_
      | refine Jl.yd (Y.not rfl rfl) rfl rfl rfl ?_
      | refine Jl.yd (Y.arithN rfl rfl rfl rfl (by omega)) rfl rfl rfl ?_
      | refine Jl.yd (Y.arith64 rfl rfl rfl rfl) rfl rfl rfl ?_
      | refine Jl.yd (Y.lenS Try.underlying46 rfl rfl rfl) rfl rfl rfl ?_
      | refine Jl.splitG rfl rfl (fun h => ?_) (fun h => ?_))
    | (apply gateE; first
      | refine Jl.nil (Ej.go ?_ (fun _ _ h => h))
      | (refine Jl.nil (Ej.back (fun _ _ h => h) (by repeat (first | exact .refl | apply DropTo.tail)) ?_); repeat (first | exact trivial | refine ⟨rfl, ?_⟩)))
    | (apply gateC; first
      | refine Cj.block rfl ?_
      | refine Cj.ret rfl (Ej.out2 (P := Try.prog) (fn := Try.f43) (R := Rr) (fun _ _ h => h) rfl rfl rfl (fun w' hW => ⟨by rw [hE], hW.below⟩))
      | refine Cj.condF rfl rfl (Cj.skip rfl (Ej.go ?_ (fun _ _ h => h)))
      | (refine Cj.condF rfl rfl (Cj.skip rfl (Ej.back (fun _ _ h => h) (by repeat (first | exact .refl | apply DropTo.tail)) ?_)); repeat (first | exact trivial | refine ⟨rfl, ?_⟩))
      | refine Cj.condF rfl rfl ?_
      | refine Cj.condT rfl rfl ?_
      | refine Cj.exit rfl (Ej.go ?_ (fun _ _ h => h))
      | refine Cj.cond rfl rfl (fun h => ?_) (fun h => ?_)
      | refine Cj.skip rfl (Ej.go ?_ (fun _ _ h => h))
      | (refine Cj.skip rfl (Ej.back (fun _ _ h => h) (by repeat (first | exact .refl | apply DropTo.tail)) ?_); repeat (first | exact trivial | refine ⟨rfl, ?_⟩))
      | refine Cj.seq rfl ?_
      | refine Cj.region rfl ?_))
        · obtain ⟨ad1, rfl⟩ := hAn hz
          obtain ⟨m, hm⟩ : ∃ m, medS l a = m := ⟨_, rfl⟩
          have hmm : m ∈ l := near_mem (hm ▸ med_mem (by rw [← hs]; exact hz))
          have hE : estF l a = (Int.tdiv (bAx a * m.f2) (bAx m.f1), true) := by unfold estF; rw [hg, ha, if_pos (show (true && true) = true from rfl), if_neg (by rw [← hs]; exact hz), hm]
          obtain ⟨⟨b1, b2⟩, b3, b4, b5⟩ := ans_b ha (hgood m hmm)
          have hq2 : IntKind.i64.wrap (Int.tdiv (bAx a * m.f2) (bAx m.f1)) = Int.tdiv (bAx a * m.f2) (bAx m.f1) := wrapI b4 (by omega)
          have hmid : IntKind.i64.wrap (Int.tdiv ((s.length : Int) - 1) 2) = (((s.length - 1) / 2 : Nat) : Int) := by
            rw [Int.tdiv_eq_ediv_of_nonneg (by omega), wrapI (by omega) (by omega)]; omega
          have hmo : okA m.f1.f0 m.f1.f1 m.f1.f2 m.f1.f3 = true := (okS_iff.1 (hgood m hmm)).2.1
          have hba : spec_l24Base.f a.f0 a.f1 a.f2 a.f3 a.f4 = some (bAx a) := sBase _ ha
          have hbm : spec_l24Base.f m.f1.f0 m.f1.f1 m.f1.f2 m.f1.f3 m.f1.f4 = some (bAx m.f1) := sBase _ hmo
          have hus : enc (s.getD ((((s.length - 1) / 2 : Nat) : Int)).toNat z40) = [.int .i64 m.f0, .int .i64 m.f1.f0, .int .i64 m.f1.f1, .int .i64 m.f1.f2, .int .i64 m.f1.f3, .bool m.f1.f4, .int .i64 m.f2] := by
            rw [Int.toNat_natCast, hs, show (nearS l a).getD (((nearS l a).length - 1) / 2) z40 = m from hm]; rfl
          repeat (first
    | (apply gateO; first
      | refine Jl.yd (Y.mv rfl rfl) rfl rfl rfl ?_
      | refine Jl.yd (Y.asg rfl rfl) rfl rfl rfl ?_
      | refine Jl.yd (Y.ext rfl rfl rfl) rfl rfl rfl ?_
      | refine Jl.yd (Y.pickT rfl rfl rfl) rfl rfl rfl ?_
      | refine Jl.yd (Y.pickF rfl rfl rfl) rfl rfl rfl ?_
      | refine Jl.off rfl rfl rfl ?_
      | refine Jl.yd (Y.cmpF rfl rfl rfl rfl (by omega)) rfl rfl rfl ?_
      | refine Jl.yd (Y.cmpT rfl rfl rfl rfl (by omega)) rfl rfl rfl ?_
      | refine Jl.yd (Y.neqB rfl rfl rfl Try.underlying4) rfl rfl rfl ?_
      | refine Jl.yd (Y.cmp rfl rfl rfl rfl) rfl rfl rfl ?_
      | refine Jl.yd (Y.not rfl rfl) rfl rfl rfl ?_
      | refine Jl.yd (Y.arithN rfl rfl rfl rfl (by omega)) rfl rfl rfl ?_
      | refine Jl.yd (Y.arith64 rfl rfl rfl rfl) rfl rfl rfl ?_
      | refine Jl.yd (Y.loadA rfl rfl agg25 (by repeat (first | exact .head _ | refine .tail _ ?_)) (by rfl)) rfl rfl rfl ?_
      | refine Jl.yd (Y.loadA rfl rfl agg40 (by repeat (first | exact .head _ | refine .tail _ ?_)) (by rfl)) rfl rfl rfl ?_
      | refine Jl.yd (Y.load1 rfl rfl sc3 (by repeat (first | exact .head _ | refine .tail _ ?_)) (by rfl)) rfl rfl rfl ?_
      | refine Jl.yd (Y.fld0 rfl rfl fld40_1) rfl rfl rfl ?_
      | refine Jl.yd (Y.fld0 rfl rfl fld40_2) rfl rfl rfl ?_
      | refine Jl.alloc rfl rfl rfl rfl zero40 (fun g => ?_)
      | refine Jl.storeA rfl rfl rfl rfl rfl sz40 (by repeat (first | exact .z | apply SetAt.s)) (by rfl) (by rfl) ?_
      | refine Jl.yd (Y.lenS Try.underlying46 rfl rfl rfl) rfl rfl rfl ?_
      | refine Jl.yd (Y.quoN (r := (((s.length - 1) / 2 : Nat) : Int)) rfl rfl rfl (by decide) hmid) rfl rfl rfl ?_
      | refine Jl.yd (Y.idx rfl rfl rfl el46 (by omega) (by omega)) rfl rfl rfl ?_
      | refine Jl.yd (Y.loadK z40 [.int .i64 m.f0, .int .i64 m.f1.f0, .int .i64 m.f1.f1, .int .i64 m.f1.f2, .int .i64 m.f1.f3, .bool m.f1.f4, .int .i64 m.f2] rfl rfl agg40 (by repeat (first | exact .head _ | refine .tail _ ?_)) (((s.length - 1) / 2 : Nat) : Int) (by omega) (by omega) (by rfl) (fun w cs h => (k40_open h).trans hus) (by rfl)) rfl rfl rfl ?_
      | refine Jl.call1 (v := .int .i64 (bAx a)) rfl rfl rfl rfl en54 rfl (fun w hW => by with_reducible first | exact spec_l24Base.calls a.f0 a.f1 a.f2 a.f3 a.f4 (bAx a) w hba | exact Calls.mono (spec_l24Base.calls a.f0 a.f1 a.f2 a.f3 a.f4 (bAx a) w hba) (fun _ _ hh => ⟨hh.1, hh.2.below⟩)) ?_
      | refine Jl.call1 (v := .int .i64 (bAx m.f1)) rfl rfl rfl rfl en54 rfl (fun w hW => by with_reducible first | exact spec_l24Base.calls m.f1.f0 m.f1.f1 m.f1.f2 m.f1.f3 m.f1.f4 (bAx m.f1) w hbm | exact Calls.mono (spec_l24Base.calls m.f1.f0 m.f1.f1 m.f1.f2 m.f1.f3 m.f1.f4 (bAx m.f1) w hbm) (fun _ _ hh => ⟨hh.1, hh.2.below⟩)) ?_
      | refine Jl.yd (Y.loadE (u := [.int .i64 m.f1.f0, .int .i64 m.f1.f1, .int .i64 m.f1.f2, .int .i64 m.f1.f3, .bool m.f1.f4]) rfl rfl agg25 (by repeat (first | exact .head _ | refine .tail _ ?_)) (by rfl) (by rfl)) rfl rfl rfl ?_
      | refine Jl.yd (Y.quoN (r := Int.tdiv (bAx a * m.f2) (bAx m.f1)) rfl rfl rfl (by omega) hq2) rfl rfl rfl ?_
      | refine Jl.splitG rfl rfl (fun h => ?_) (fun h => ?_))
    | (apply gateE; first
      | refine Jl.nil (Ej.go ?_ (fun _ _ h => h))
      | (refine Jl.nil (Ej.back (fun _ _ h => h) (by repeat (first | exact .refl | apply DropTo.tail)) ?_); repeat (first | exact trivial | refine ⟨rfl, ?_⟩)))
    | (apply gateC; first
      | refine Cj.block rfl ?_
      | refine Cj.regionD rfl (mkD [0, 1, 2, 3, 4, 6, 8, 9, 10] []) [] [0, 2, 5, 3, 6, 1, 4, 7, 8, 9, 10] mixed (by decide +kernel) ?_
      | refine Cj.ret rfl (Ej.out2 (P := Try.prog) (fn := Try.f43) (R := Rr) (fun _ _ h => h) rfl rfl rfl (fun w' hW => ⟨by rw [hE], hW.below⟩))
      | refine Cj.condF rfl rfl (Cj.skip rfl (Ej.go ?_ (fun _ _ h => h)))
      | (refine Cj.condF rfl rfl (Cj.skip rfl (Ej.back (fun _ _ h => h) (by repeat (first | exact .refl | apply DropTo.tail)) ?_)); repeat (first | exact trivial | refine ⟨rfl, ?_⟩))
      | refine Cj.condF rfl rfl ?_
      | refine Cj.condT rfl rfl ?_
      | refine Cj.exit rfl (Ej.go ?_ (fun _ _ h => h))
      | refine Cj.cond rfl rfl (fun h => ?_) (fun h => ?_)
      | refine Cj.skip rfl (Ej.go ?_ (fun _ _ h => h))
      | (refine Cj.skip rfl (Ej.back (fun _ _ h => h) (by repeat (first | exact .refl | apply DropTo.tail)) ?_); repeat (first | exact trivial | refine ⟨rfl, ?_⟩))
      | refine Cj.seq rfl ?_
      | refine Cj.region rfl ?_))
end ES
end Go.Proofs.Ytembbdhhpblapaa.WK

