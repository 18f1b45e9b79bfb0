import Derived.Test.YtembbdhhpblapaaSLN
import Derived.Test.YtembbdhhpblapaaSLQ
import Derived.Test.YtembbdhhpblapaaXSS
import Derived.Test.YtembbdhhpblapaaMY
import Derived.KernelRfl
namespace Go.Proofs.Ytembbdhhpblapaa.WK
open Go Go.RowKit Go.Proofs.Ytembbdhhpblapaa.Q Go.Proofs.Ytembbdhhpblapaa.M Go.Proofs.YtembbdhhpblapaaW.PrintWords Go.Proofs.YtembbdhhpblapaaW.SL
open Go.Proofs.YtembbdhhpblapaaW.Pl (nth nth_get nth_mem)
set_option linter.unusedSimpArgs false
set_option linter.unusedVariables false
set_option maxRecDepth 100000
namespace YM
theorem sz3 : SzT Try.prog 3 1 := ⟨by kernel_rfl⟩
theorem sz4 : SzT Try.prog 4 1 := ⟨by kernel_rfl⟩
theorem fld40_0 : FldT Try.prog 40 0 0 := ⟨by kernel_rfl⟩
theorem fld40_1 : FldT Try.prog 40 1 1 := ⟨by kernel_rfl⟩
theorem fld40_2 : FldT Try.prog 40 2 6 := ⟨by kernel_rfl⟩
theorem fld25_0 : FldT Try.prog 25 0 0 := ⟨by kernel_rfl⟩
theorem fld25_1 : FldT Try.prog 25 1 1 := ⟨by kernel_rfl⟩
theorem fld25_2 : FldT Try.prog 25 2 2 := ⟨by kernel_rfl⟩
theorem fld25_3 : FldT Try.prog 25 3 3 := ⟨by kernel_rfl⟩
theorem fld25_4 : FldT Try.prog 25 4 4 := ⟨by kernel_rfl⟩
theorem el46 : ElT Try.prog 46 40 7 := ⟨by kernel_rfl⟩
theorem en28 : Ent Try.prog 28 := ⟨enters_of Try.func28 (by kernel_rfl) rfl⟩
theorem en30 : Ent Try.prog 30 := ⟨enters_of Try.func30 (by kernel_rfl) rfl⟩
theorem en37 : Ent Try.prog 37 := ⟨enters_of Try.func37 (by kernel_rfl) rfl⟩
theorem en38 : Ent Try.prog 38 := ⟨enters_of Try.func38 (by kernel_rfl) rfl⟩
theorem en39 : Ent Try.prog 39 := ⟨enters_of Try.func39 (by kernel_rfl) rfl⟩
theorem en32 : Ent Try.prog 32 := ⟨enters_of Try.func32 (by kernel_rfl) rfl⟩
theorem en40 : Ent Try.prog 40 := ⟨enters_of Try.func40 (by kernel_rfl) rfl⟩
theorem en41 : Ent Try.prog 41 := ⟨enters_of Try.func41 (by kernel_rfl) rfl⟩
theorem en42 : Ent Try.prog 42 := ⟨enters_of Try.func42 (by kernel_rfl) rfl⟩
theorem mixed : Try.prog.follows .mixedOrders = true := by kernel_rfl
set_option maxHeartbeats 4000000 in
/-- All fields of the sales are marked. -/
theorem markRun (w : World) (S : Nat → Prop) (g n c m : Nat) (k0 : Int) (hk : 0 ≤ k0 ∧ k0 ≤ 1099511627776) (hn : n ≤ 1048576) (hm : n * 7 ≤ m) (hS : (Item.any (Blk g 40 m)).p w S) :
    Calls Try.prog 40 #[.slice (some ⟨g, 0, none⟩) n c, .int .i64 k0] w fun e w' => e = .returned (.int .i64 (k0 + 7 * (n : Int))) ∧ ∃ S', (Item.any Dead).p w' S' ∧ (∀ k, S' k → k < w.heap.size → S k) ∧ Aft S w w' := by
  refine enterS (args := [.slice (some ⟨g, 0, none⟩) n c, .int .i64 k0]) [.any (Blk g 40 m)] [] (Own.single hS) (fun p hp => by cases hp) Try.func40 rfl rfl ?_
  repeat (first
    | (apply gateO; first
      | refine Jl.yd (Y.mv rfl rfl) rfl rfl rfl ?_
      | refine Jl.yd (Y.asg rfl rfl) rfl rfl rfl ?_
      | refine Jl.yd (Y.ext rfl rfl rfl) rfl rfl rfl ?_
      | refine Jl.yd (Y.pickT rfl rfl rfl) rfl rfl rfl ?_
      | refine Jl.yd (Y.pickF rfl rfl rfl) rfl rfl rfl ?_
      | refine Jl.off rfl rfl rfl ?_
      | refine Jl.yd (Y.cmpF rfl rfl rfl rfl (by omega)) rfl rfl rfl ?_
      | refine Jl.yd (Y.cmpT rfl rfl rfl rfl (by omega)) rfl rfl rfl ?_
      | refine Jl.yd (Y.neqB rfl rfl rfl Try.underlying4) rfl rfl rfl ?_
      | refine Jl.yd (Y.cmp rfl rfl rfl rfl) rfl rfl rfl ?_
      | refine Jl.yd (Y.not rfl rfl) rfl rfl rfl ?_
      | refine Jl.yd (Y.arithN rfl rfl rfl rfl (by omega)) rfl rfl rfl ?_
      | refine Jl.yd (Y.arith64 rfl rfl rfl rfl) rfl rfl rfl ?_
      | refine Jl.yd (Y.lenS Try.underlying46 rfl rfl rfl) rfl rfl rfl ?_
      | refine Jl.splitG rfl rfl (fun h => ?_) (fun h => ?_))
    | (apply gateE; first
      | refine Jl.nil (Ej.go ?_ (fun _ _ h => h))
      | (refine Jl.nil (Ej.back (fun _ _ h => h) (by repeat (first | exact .refl | apply DropTo.tail)) ?_); repeat (first | exact trivial | refine ⟨rfl, ?_⟩)))
    | (apply gateC; first
      | refine Cj.block rfl ?_
      | refine Cj.condF rfl rfl (Cj.skip rfl (Ej.go ?_ (fun _ _ h => h)))
      | (refine Cj.condF rfl rfl (Cj.skip rfl (Ej.back (fun _ _ h => h) (by repeat (first | exact .refl | apply DropTo.tail)) ?_)); repeat (first | exact trivial | refine ⟨rfl, ?_⟩))
      | refine Cj.condF rfl rfl ?_
      | refine Cj.condT rfl rfl ?_
      | refine Cj.exit rfl (Ej.go ?_ (fun _ _ h => h))
      | refine Cj.cond rfl rfl (fun h => ?_) (fun h => ?_)
      | refine Cj.skip rfl (Ej.go ?_ (fun _ _ h => h))
      | (refine Cj.skip rfl (Ej.back (fun _ _ h => h) (by repeat (first | exact .refl | apply DropTo.tail)) ?_); repeat (first | exact trivial | refine ⟨rfl, ?_⟩))
      | refine Cj.seq rfl ?_
      | refine Cj.region rfl ?_))
  refine Cj.loop (ι := Nat) (fun i => i ≤ n) (fun i => [(0, .slice (some ⟨g, 0, none⟩) n c), (1, .int .i64 (k0 + 7 * (i : Int))), (5, .int .i64 (i : Int)), (4, .int .i64 0)]) (fun _ => [.any (Blk g 40 m)]) (fun _ => []) (fun i => n - i) rfl 0 (Nat.zero_le _) ⟨rfl, by show some (Value.int .i64 k0) = some (.int .i64 (k0 + 7 * ((0 : Nat) : Int))); congr 2; omega, rfl, rfl, trivial⟩ rfl (fun p hp => hp) (fun i hi => ?_)
  try dsimp only at hi
  try dsimp only
  by_cases hlt : i < n
  · repeat (first
    | (apply gateO; first
      | refine Jl.yd (Y.mv rfl rfl) rfl rfl rfl ?_
      | refine Jl.yd (Y.asg rfl rfl) rfl rfl rfl ?_
      | refine Jl.yd (Y.ext rfl rfl rfl) rfl rfl rfl ?_
      | refine Jl.yd (Y.pickT rfl rfl rfl) rfl rfl rfl ?_
      | refine Jl.yd (Y.pickF rfl rfl rfl) rfl rfl rfl ?_
      | refine Jl.off rfl rfl rfl ?_
      | refine Jl.yd (Y.cmpF rfl rfl rfl rfl (by omega)) rfl rfl rfl ?_
      | refine Jl.yd (Y.cmpT rfl rfl rfl rfl (by omega)) rfl rfl rfl ?_
      | refine Jl.yd (Y.neqB rfl rfl rfl Try.underlying4) rfl rfl rfl ?_
      | refine Jl.yd (Y.cmp rfl rfl rfl rfl) rfl rfl rfl ?_
      | refine Jl.yd (Y.not rfl rfl) rfl rfl rfl ?_
      | refine Jl.yd (Y.arithN rfl rfl rfl rfl (by omega)) rfl rfl rfl ?_
      | refine Jl.yd (Y.arith64 rfl rfl rfl rfl) rfl rfl rfl ?_
      | refine Jl.yd (Y.lenS Try.underlying46 rfl rfl rfl) rfl rfl rfl ?_
      | refine Jl.yd (Y.idx0 rfl rfl rfl el46 (by omega) (by omega)) rfl rfl rfl ?_
      | refine Jl.yd (Y.fldB rfl rfl fld40_0) rfl rfl rfl ?_
      | refine Jl.yd (Y.fldB rfl rfl fld40_1) rfl rfl rfl ?_
      | refine Jl.yd (Y.fldB rfl rfl fld40_2) rfl rfl rfl ?_
      | refine Jl.yd (Y.fldB rfl rfl fld25_0) rfl rfl rfl ?_
      | refine Jl.yd (Y.fldB rfl rfl fld25_1) rfl rfl rfl ?_
      | refine Jl.yd (Y.fldB rfl rfl fld25_2) rfl rfl rfl ?_
      | refine Jl.yd (Y.fldB rfl rfl fld25_3) rfl rfl rfl ?_
      | refine Jl.yd (Y.fldB rfl rfl fld25_4) rfl rfl rfl ?_
      | refine Jl.storeK rfl rfl rfl rfl rfl sz3 rfl (by repeat (first | exact .head _ | refine .tail _ ?_)) (by omega) ?_
      | refine Jl.storeK rfl rfl rfl rfl rfl sz4 rfl (by repeat (first | exact .head _ | refine .tail _ ?_)) (by omega) ?_
      | refine Jl.yd (Y.rem rfl rfl rfl (by decide)) rfl rfl rfl ?_
      | refine Jl.splitG rfl rfl (fun h => ?_) (fun h => ?_))
    | (apply gateE; first
      | refine Jl.nil (Ej.go ?_ (fun _ _ h => h))
      | (refine Jl.nil (Ej.back (fun _ _ h => h) (by repeat (first | exact .refl | apply DropTo.tail)) ?_); repeat (first | exact trivial | refine ⟨rfl, ?_⟩)))
    | (apply gateC; first
      | refine Cj.block rfl ?_
      | refine Cj.condF rfl rfl (Cj.skip rfl (Ej.go ?_ (fun _ _ h => h)))
      | (refine Cj.condF rfl rfl (Cj.skip rfl (Ej.back (fun _ _ h => h) (by repeat (first | exact .refl | apply DropTo.tail)) ?_)); repeat (first | exact trivial | refine ⟨rfl, ?_⟩))
      | refine Cj.condF rfl rfl ?_
      | refine Cj.condT rfl rfl ?_
      | refine Cj.exit rfl (Ej.go ?_ (fun _ _ h => h))
      | refine Cj.cond rfl rfl (fun h => ?_) (fun h => ?_)
      | refine Cj.skip rfl (Ej.go ?_ (fun _ _ h => h))
      | (refine Cj.skip rfl (Ej.back (fun _ _ h => h) (by repeat (first | exact .refl | apply DropTo.tail)) ?_); repeat (first | exact trivial | refine ⟨rfl, ?_⟩))
      | refine Cj.seq rfl ?_
      | refine Cj.region rfl ?_))
    refine Jl.nil (Ej.cut (ι := Nat) _ _ _ _ (fun _ _ h => h) (i + 1) ⟨by omega, by omega⟩ ⟨rfl, ?_, rfl, rfl, trivial⟩ rfl (fun p hp => hp))
    show some (Value.int .i64 _) = some (.int .i64 (k0 + 7 * ((i + 1 : Nat) : Int)))
    congr 2
    omega
  · obtain rfl : i = n := by omega
    repeat (first
    | (apply gateO; first
      | refine Jl.yd (Y.mv rfl rfl) rfl rfl rfl ?_
      | refine Jl.yd (Y.asg rfl rfl) rfl rfl rfl ?_
      | refine Jl.yd (Y.ext rfl rfl rfl) rfl rfl rfl ?_
      | refine Jl.yd (Y.pickT rfl rfl rfl) rfl rfl rfl ?_
      | refine Jl.yd (Y.pickF rfl rfl rfl) rfl rfl rfl ?_
      | refine Jl.off rfl rfl rfl ?_
      | refine Jl.yd (Y.cmpF rfl rfl rfl rfl (by omega)) rfl rfl rfl ?_
      | refine Jl.yd (Y.cmpT rfl rfl rfl rfl (by omega)) rfl rfl rfl ?_
      | refine Jl.yd (Y.neqB rfl rfl rfl Try.underlying4) rfl rfl rfl ?_
      | refine Jl.yd (Y.cmp rfl rfl rfl rfl) rfl rfl rfl ?_
      | refine Jl.yd (Y.not rfl rfl) rfl rfl rfl ?_
      | refine Jl.yd (Y.arithN rfl rfl rfl rfl (by omega)) rfl rfl rfl ?_
      | refine Jl.yd (Y.arith64 rfl rfl rfl rfl) rfl rfl rfl ?_
      | refine Jl.yd (Y.lenS Try.underlying46 rfl rfl rfl) rfl rfl rfl ?_
      | refine Jl.splitG rfl rfl (fun h => ?_) (fun h => ?_))
    | (apply gateE; first
      | refine Jl.nil (Ej.go ?_ (fun _ _ h => h))
      | (refine Jl.nil (Ej.back (fun _ _ h => h) (by repeat (first | exact .refl | apply DropTo.tail)) ?_); repeat (first | exact trivial | refine ⟨rfl, ?_⟩)))
    | (apply gateC; first
      | refine Cj.block rfl ?_
      | refine Cj.ret rfl (Ej.out1 (P := Try.prog) (fn := Try.f40) (R := fun e w' => e = .returned (.int .i64 (k0 + 7 * (i : Int))) ∧ ∃ S', (Item.any Dead).p w' S' ∧ (∀ k, S' k → k < w.heap.size → S k) ∧ Aft S w w') (fun _ _ h => h) rfl rfl (fun w' hW => ?_))
      | refine Cj.condF rfl rfl (Cj.skip rfl (Ej.go ?_ (fun _ _ h => h)))
      | (refine Cj.condF rfl rfl (Cj.skip rfl (Ej.back (fun _ _ h => h) (by repeat (first | exact .refl | apply DropTo.tail)) ?_)); repeat (first | exact trivial | refine ⟨rfl, ?_⟩))
      | refine Cj.condF rfl rfl ?_
      | refine Cj.condT rfl rfl ?_
      | refine Cj.exit rfl (Ej.go ?_ (fun _ _ h => h))
      | refine Cj.cond rfl rfl (fun h => ?_) (fun h => ?_)
      | refine Cj.skip rfl (Ej.go ?_ (fun _ _ h => h))
      | (refine Cj.skip rfl (Ej.back (fun _ _ h => h) (by repeat (first | exact .refl | apply DropTo.tail)) ?_); repeat (first | exact trivial | refine ⟨rfl, ?_⟩))
      | refine Cj.seq rfl ?_
      | refine Cj.region rfl ?_))
    obtain ⟨S', g1, g2, g3⟩ := hW.end1
    exact ⟨rfl, S', (fun k hk => by rw [(g1.2 k).1 hk]; exact blk_lt g1.1.choose_spec.1), g2, g3⟩
set_option maxHeartbeats 1000000 in
theorem markNil (w : World) (S : Nat → Prop) (c : Nat) (k0 : Int) (hS : ∀ k, S k → k < w.heap.size) : Calls Try.prog 40 #[.slice none 0 c, .int .i64 k0] w fun e w' => e = .returned (.int .i64 k0) ∧ ∃ S', (Item.any Dead).p w' S' ∧ (∀ k, S' k → k < w.heap.size → S k) ∧ Aft S w w' := by
  refine enterS (S := S) (args := [.slice none 0 c, .int .i64 k0]) [.any Dead] [] (Own.single (i := .any Dead) hS) (fun p hp => by cases hp) Try.func40 rfl rfl ?_
  repeat (first
    | (apply gateO; first
      | refine Jl.yd (Y.mv rfl rfl) rfl rfl rfl ?_
      | refine Jl.yd (Y.asg rfl rfl) rfl rfl rfl ?_
      | refine Jl.yd (Y.ext rfl rfl rfl) rfl rfl rfl ?_
      | refine Jl.yd (Y.pickT rfl rfl rfl) rfl rfl rfl ?_
      | refine Jl.yd (Y.pickF rfl rfl rfl) rfl rfl rfl ?_
      | refine Jl.off rfl rfl rfl ?_
      | refine Jl.yd (Y.cmpF rfl rfl rfl rfl (by omega)) rfl rfl rfl ?_
      | refine Jl.yd (Y.cmpT rfl rfl rfl rfl (by omega)) rfl rfl rfl ?_
      | refine Jl.yd (Y.neqB rfl rfl rfl Try.underlying4) rfl rfl rfl ?_
      | refine Jl.yd (Y.cmp rfl rfl rfl rfl) rfl rfl rfl ?_
      | refine Jl.yd (Y.not rfl rfl) rfl rfl rfl ?_
      | refine Jl.yd (Y.arithN rfl rfl rfl rfl (by omega)) rfl rfl rfl ?_
      | refine Jl.yd (Y.arith64 rfl rfl rfl rfl) rfl rfl rfl ?_
      | refine Jl.yd (Y.lenS Try.underlying46 rfl rfl rfl) rfl rfl rfl ?_
      | refine Jl.splitG rfl rfl (fun h => ?_) (fun h => ?_))
    | (apply gateE; first
      | refine Jl.nil (Ej.go ?_ (fun _ _ h => h))
      | (refine Jl.nil (Ej.back (fun _ _ h => h) (by repeat (first | exact .refl | apply DropTo.tail)) ?_); repeat (first | exact trivial | refine ⟨rfl, ?_⟩)))
    | (apply gateC; first
      | refine Cj.block rfl ?_
      | refine Cj.condF rfl rfl (Cj.skip rfl (Ej.go ?_ (fun _ _ h => h)))
      | (refine Cj.condF rfl rfl (Cj.skip rfl (Ej.back (fun _ _ h => h) (by repeat (first | exact .refl | apply DropTo.tail)) ?_)); repeat (first | exact trivial | refine ⟨rfl, ?_⟩))
      | refine Cj.condF rfl rfl ?_
      | refine Cj.condT rfl rfl ?_
      | refine Cj.exit rfl (Ej.go ?_ (fun _ _ h => h))
      | refine Cj.cond rfl rfl (fun h => ?_) (fun h => ?_)
      | refine Cj.skip rfl (Ej.go ?_ (fun _ _ h => h))
      | (refine Cj.skip rfl (Ej.back (fun _ _ h => h) (by repeat (first | exact .refl | apply DropTo.tail)) ?_); repeat (first | exact trivial | refine ⟨rfl, ?_⟩))
      | refine Cj.seq rfl ?_
      | refine Cj.region rfl ?_))
  refine Cj.loop (ι := Unit) (fun _ => True) (fun p => [(0, .slice none 0 c), (1, .int .i64 k0), (5, .int .i64 0), (4, .int .i64 0)]) (fun _ => [.any Dead]) (fun _ => []) (fun _ => 0) rfl () trivial ⟨rfl, rfl, rfl, rfl, trivial⟩ rfl (fun p hp => hp) (fun p hp => ?_)
  repeat (first
    | (apply gateO; first
      | refine Jl.yd (Y.mv rfl rfl) rfl rfl rfl ?_
      | refine Jl.yd (Y.asg rfl rfl) rfl rfl rfl ?_
      | refine Jl.yd (Y.ext rfl rfl rfl) rfl rfl rfl ?_
      | refine Jl.yd (Y.pickT rfl rfl rfl) rfl rfl rfl ?_
      | refine Jl.yd (Y.pickF rfl rfl rfl) rfl rfl rfl ?_
      | refine Jl.off rfl rfl rfl ?_
      | refine Jl.yd (Y.cmpF rfl rfl rfl rfl (by omega)) rfl rfl rfl ?_
      | refine Jl.yd (Y.cmpT rfl rfl rfl rfl (by omega)) rfl rfl rfl ?_
      | refine Jl.yd (Y.neqB rfl rfl rfl Try.underlying4) rfl rfl rfl ?_
      | refine Jl.yd (Y.cmp rfl rfl rfl rfl) rfl rfl rfl ?_
      | refine Jl.yd (Y.not rfl rfl) rfl rfl rfl ?_
      | refine Jl.yd (Y.arithN rfl rfl rfl rfl (by omega)) rfl rfl rfl ?_
      | refine Jl.yd (Y.arith64 rfl rfl rfl rfl) rfl rfl rfl ?_
      | refine Jl.yd (Y.lenS Try.underlying46 rfl rfl rfl) rfl rfl rfl ?_
      | refine Jl.splitG rfl rfl (fun h => ?_) (fun h => ?_))
    | (apply gateE; first
      | refine Jl.nil (Ej.go ?_ (fun _ _ h => h))
      | (refine Jl.nil (Ej.back (fun _ _ h => h) (by repeat (first | exact .refl | apply DropTo.tail)) ?_); repeat (first | exact trivial | refine ⟨rfl, ?_⟩)))
    | (apply gateC; first
      | refine Cj.block rfl ?_
      | refine Cj.ret rfl (Ej.out1 (P := Try.prog) (fn := Try.f40) (R := fun e w' => e = .returned (.int .i64 k0) ∧ ∃ S', (Item.any Dead).p w' S' ∧ (∀ k, S' k → k < w.heap.size → S k) ∧ Aft S w w') (fun _ _ h => h) rfl rfl (fun w' hW => ?_))
      | refine Cj.condF rfl rfl (Cj.skip rfl (Ej.go ?_ (fun _ _ h => h)))
      | (refine Cj.condF rfl rfl (Cj.skip rfl (Ej.back (fun _ _ h => h) (by repeat (first | exact .refl | apply DropTo.tail)) ?_)); repeat (first | exact trivial | refine ⟨rfl, ?_⟩))
      | refine Cj.condF rfl rfl ?_
      | refine Cj.condT rfl rfl ?_
      | refine Cj.exit rfl (Ej.go ?_ (fun _ _ h => h))
      | refine Cj.cond rfl rfl (fun h => ?_) (fun h => ?_)
      | refine Cj.skip rfl (Ej.go ?_ (fun _ _ h => h))
      | (refine Cj.skip rfl (Ej.back (fun _ _ h => h) (by repeat (first | exact .refl | apply DropTo.tail)) ?_); repeat (first | exact trivial | refine ⟨rfl, ?_⟩))
      | refine Cj.seq rfl ?_
      | refine Cj.region rfl ?_))
  obtain ⟨S', g1, g2, g3⟩ := hW.end1
  exact ⟨rfl, S', g1, g2, g3⟩
theorem markSales_calls (w : World) (A : Nat → Prop) (v : Value) (xs : List S40) (k0 : Int) (hk : 0 ≤ k0 ∧ k0 ≤ 1099511627776) (hn : xs.length ≤ 1048576) (hA : (Item.row k40 40 0 v xs).p w A) :
    Calls Try.prog 40 #[v, .int .i64 k0] w fun e w' => e = .returned (.int .i64 (k0 + 7 * (xs.length : Int))) ∧ ∃ S', (Item.any Dead).p w' S' ∧ (∀ k, S' k → k < w.heap.size → A k) ∧ Aft A w w' := by
  rcases row_form hA.1 with ⟨c, rfl, rfl⟩ | ⟨g, c, rfl⟩
  · have := markNil w A c k0 hA.2
    simpa using this
  · obtain ⟨m, h1, h2, h3⟩ := row_blk hA
    refine (markRun w _ g xs.length c m k0 hk hn h1 h2).mono ?_
    rintro e w' ⟨he, S', g1, g2, g3⟩
    exact ⟨he, S', g1, fun k hk hlt => by rw [g2 k hk hlt]; exact h3, ⟨g3.os, g3.tape, g3.output, g3.size, fun k hk hnA => g3.block k hk (fun e => hnA (e ▸ h3))⟩⟩
theorem held_n {k n c : Nat} {l : List (List Int)} {r : Int} {w : World} {A : Option Addr} (hn : n = l.length) (hr : Kd.C (Kd.slice 3 (Kd.int .i64)) w A l.length l) (hc : l.length ≤ c) (h : laws_heldIntSS.f k l 1 = some r) : Calls Try.prog 42 #[.slice A n c, .int .i64 1] w fun e w' => e = .returned (.int .i64 r) ∧ Below w.heap.size w w' := by
  subst hn
  exact (laws_heldIntSS.calls k A c l 1 r w hr hc h).mono (fun _ _ hh => ⟨hh.1, hh.2.below⟩)
set_option maxHeartbeats 2000000 in
theorem walkA (l0 : List S36) (A0 : Option Addr) (c0 : Nat) (w : World) (hr0 : Kd.C k36 w A0 l0.length l0) (hc0 : l0.length ≤ c0) (r : Int) (hz : laws_szSaleS.f l0 1048576 = some r) (hr : r < 0) : Calls Try.prog 11 #[.slice A0 l0.length c0] w fun e w' => e = .returned (.bool true) ∧ Below w.heap.size w w' := by
  refine enterW (args := [.slice A0 l0.length c0]) [(fun W => Kd.C k36 W A0 l0.length l0)] (fun p hp W hb => by rw [List.mem_singleton.1 hp]; exact Kd.C_below hr0 hb) Try.func11 rfl rfl ?_
  repeat (first
    | (apply gateO; first
      | refine Jl.yd (Y.mv rfl rfl) rfl rfl rfl ?_
      | refine Jl.yd (Y.asg rfl rfl) rfl rfl rfl ?_
      | refine Jl.yd (Y.ext rfl rfl rfl) rfl rfl rfl ?_
      | refine Jl.yd (Y.pickT rfl rfl rfl) rfl rfl rfl ?_
      | refine Jl.yd (Y.pickF rfl rfl rfl) rfl rfl rfl ?_
      | refine Jl.off rfl rfl rfl ?_
      | refine Jl.yd (Y.cmpF rfl rfl rfl rfl (by omega)) rfl rfl rfl ?_
      | refine Jl.yd (Y.cmpT rfl rfl rfl rfl (by omega)) rfl rfl rfl ?_
      | refine Jl.yd (Y.neqB rfl rfl rfl Try.underlying4) rfl rfl rfl ?_
      | refine Jl.yd (Y.cmp rfl rfl rfl rfl) rfl rfl rfl ?_
      | refine Jl.yd (Y.not rfl rfl) rfl rfl rfl ?_
      | refine Jl.yd (Y.arithN rfl rfl rfl rfl (by omega)) rfl rfl rfl ?_
      | refine Jl.yd (Y.arith64 rfl rfl rfl rfl) rfl rfl rfl ?_
      | refine Jl.call1 (v := .int .i64 r) rfl rfl rfl rfl en28 rfl (fun w hW => by with_reducible first | exact laws_szSaleS.calls _ _ l0 1048576 r w (hW.fact (p := (fun W => Kd.C k36 W A0 l0.length l0)) (by repeat (first | exact memH | refine memT ?_))) hc0 hz | exact Calls.mono (laws_szSaleS.calls _ _ l0 1048576 r w (hW.fact (p := (fun W => Kd.C k36 W A0 l0.length l0)) (by repeat (first | exact memH | refine memT ?_))) hc0 hz) (fun _ _ hh => ⟨hh.1, hh.2.below⟩)) ?_
      | refine Jl.splitG rfl rfl (fun h => ?_) (fun h => ?_))
    | (apply gateE; first
      | refine Jl.nil (Ej.go ?_ (fun _ _ h => h))
      | (refine Jl.nil (Ej.back (fun _ _ h => h) (by repeat (first | exact .refl | apply DropTo.tail)) ?_); repeat (first | exact trivial | refine ⟨rfl, ?_⟩)))
    | (apply gateC; first
      | refine Cj.ret rfl (Ej.out1 (P := Try.prog) (fn := Try.f11) (R := fun e w' => e = .returned (.bool true) ∧ Below w.heap.size w w') (fun _ _ h => h) rfl rfl (fun w hW => ⟨rfl, hW.below⟩))
      | refine Cj.condF rfl rfl (Cj.skip rfl (Ej.go ?_ (fun _ _ h => h)))
      | (refine Cj.condF rfl rfl (Cj.skip rfl (Ej.back (fun _ _ h => h) (by repeat (first | exact .refl | apply DropTo.tail)) ?_)); repeat (first | exact trivial | refine ⟨rfl, ?_⟩))
      | refine Cj.condF rfl rfl ?_
      | refine Cj.condT rfl rfl ?_
      | refine Cj.exit rfl (Ej.go ?_ (fun _ _ h => h))
      | refine Cj.cond rfl rfl (fun h => ?_) (fun h => ?_)
      | refine Cj.skip rfl (Ej.go ?_ (fun _ _ h => h))
      | (refine Cj.skip rfl (Ej.back (fun _ _ h => h) (by repeat (first | exact .refl | apply DropTo.tail)) ?_); repeat (first | exact trivial | refine ⟨rfl, ?_⟩))
      | refine Cj.seq rfl ?_
      | refine Cj.region rfl ?_))
set_option maxHeartbeats 8000000 in
theorem walkC (l0 : List S36) (A0 : Option Addr) (c0 : Nat) (w : World) (hr0 : Kd.C k36 w A0 l0.length l0) (hc0 : l0.length ≤ c0) (r : Int) (hz : laws_szSaleS.f l0 1048576 = some r) (hr : ¬ r < 0) (l : List S40) (hln : l.length ≤ 1048576) (q : List (List Int)) (qb : Bool) (kt ks ki ke kq kx : Nat) (ht : laws_toSaleS.f kt l0 = some l) (hs : spec_YearMeans.f ks l = some (q, qb)) (hi : impl_YearMeans.f ki l = some (q, qb)) (he : laws_eqIntSS.f ke q q = some true) (hq : laws_eqSaleS.f kq l l = some true)
    (hq1 : q.length ≤ 1048576) (hq2 : ∀ i, i < q.length → (nth q i []).length ≤ 1048576) (hhe : laws_heldIntSS.f kx (markSS q 1) 1 = some ((kS q 1 q.length : Nat) : Int)) : Calls Try.prog 11 #[.slice A0 l0.length c0] w fun e w' => e = .returned (.bool true) ∧ Below w.heap.size w w' := by
  refine enterW (args := [.slice A0 l0.length c0]) [(fun W => Kd.C k36 W A0 l0.length l0)] (fun p hp W hb => by rw [List.mem_singleton.1 hp]; exact Kd.C_below hr0 hb) Try.func11 rfl rfl ?_
  repeat (first
    | (apply gateO; first
      | refine Jl.yd (Y.mv rfl rfl) rfl rfl rfl ?_
      | refine Jl.yd (Y.asg rfl rfl) rfl rfl rfl ?_
      | refine Jl.yd (Y.ext rfl rfl rfl) rfl rfl rfl ?_
      | refine Jl.yd (Y.pickT rfl rfl rfl) rfl rfl rfl ?_
      | refine Jl.yd (Y.pickF rfl rfl rfl) rfl rfl rfl ?_
      | refine Jl.off rfl rfl rfl ?_
      | refine Jl.yd (Y.cmpF rfl rfl rfl rfl (by omega)) rfl rfl rfl ?_
      | refine Jl.yd (Y.cmpT rfl rfl rfl rfl (by omega)) rfl rfl rfl ?_
      | refine Jl.yd (Y.neqB rfl rfl rfl Try.underlying4) rfl rfl rfl ?_
      | refine Jl.yd (Y.cmp rfl rfl rfl rfl) rfl rfl rfl ?_
      | refine Jl.yd (Y.not rfl rfl) rfl rfl rfl ?_
      | refine Jl.yd (Y.arithN rfl rfl rfl rfl (by omega)) rfl rfl rfl ?_
      | refine Jl.yd (Y.arith64 rfl rfl rfl rfl) rfl rfl rfl ?_
      | refine Jl.call1 (v := .int .i64 r) rfl rfl rfl rfl en28 rfl (fun w hW => by with_reducible first | exact laws_szSaleS.calls _ _ l0 1048576 r w (hW.fact (p := (fun W => Kd.C k36 W A0 l0.length l0)) (by repeat (first | exact memH | refine memT ?_))) hc0 hz | exact Calls.mono (laws_szSaleS.calls _ _ l0 1048576 r w (hW.fact (p := (fun W => Kd.C k36 W A0 l0.length l0)) (by repeat (first | exact memH | refine memT ?_))) hc0 hz) (fun _ _ hh => ⟨hh.1, hh.2.below⟩)) ?_
      | refine Jl.callR 0 (fun v => v) rfl rfl rfl rfl en30 rfl (fun w hW => by with_reducible exact laws_toSaleS.calls kt _ _ l0 l w (hW.fact (p := (fun W => Kd.C k36 W A0 l0.length l0)) (by repeat (first | exact memH | refine memT ?_))) hc0 ht) (fun A c hl => ?_)
      | refine Jl.callRS (fun v => .tuple #[v, .bool qb]) rfl rfl rfl rfl en37 rfl (fun w hW => by with_reducible exact spec_YearMeans.calls ks _ _ l q qb w (hW.rowC (by repeat (first | exact memH | refine memT ?_))) (hW.rowCap (by repeat (first | exact memH | refine memT ?_))).2 hs) (fun A c hl => ?_)
      | refine Jl.callRS (fun v => .tuple #[v, .bool qb]) rfl rfl rfl rfl en38 rfl (fun w hW => by with_reducible exact impl_YearMeans.calls ki _ _ l q qb w (hW.rowC (by repeat (first | exact memH | refine memT ?_))) (hW.rowCap (by repeat (first | exact memH | refine memT ?_))).2 hi) (fun A c hl => ?_)
      | refine Jl.call1 (v := .bool true) rfl rfl rfl rfl en39 rfl (fun w hW => by with_reducible first | exact laws_eqIntSS.calls ke _ _ q _ _ q true w (hW.rowSC (by repeat (first | exact memH | refine memT ?_))) (hW.rowSCap (by repeat (first | exact memH | refine memT ?_))).2 (hW.rowSC (by repeat (first | exact memH | refine memT ?_))) (hW.rowSCap (by repeat (first | exact memH | refine memT ?_))).2 he | exact Calls.mono (laws_eqIntSS.calls ke _ _ q _ _ q true w (hW.rowSC (by repeat (first | exact memH | refine memT ?_))) (hW.rowSCap (by repeat (first | exact memH | refine memT ?_))).2 (hW.rowSC (by repeat (first | exact memH | refine memT ?_))) (hW.rowSCap (by repeat (first | exact memH | refine memT ?_))).2 he) (fun _ _ hh => ⟨hh.1, hh.2.below⟩)) ?_
      | refine Jl.call1 (v := .bool true) rfl rfl rfl rfl en32 rfl (fun w hW => by with_reducible first | exact laws_eqSaleS.calls kq _ _ l _ _ l true w (hW.rowC (by repeat (first | exact memH | refine memT ?_))) (hW.rowCap (by repeat (first | exact memH | refine memT ?_))).2 (hW.rowC (by repeat (first | exact memH | refine memT ?_))) (hW.rowCap (by repeat (first | exact memH | refine memT ?_))).2 hq | exact Calls.mono (laws_eqSaleS.calls kq _ _ l _ _ l true w (hW.rowC (by repeat (first | exact memH | refine memT ?_))) (hW.rowCap (by repeat (first | exact memH | refine memT ?_))).2 (hW.rowC (by repeat (first | exact memH | refine memT ?_))) (hW.rowCap (by repeat (first | exact memH | refine memT ?_))).2 hq) (fun _ _ hh => ⟨hh.1, hh.2.below⟩)) ?_
      | refine Jl.callMv (v := .int .i64 (1 + 7 * (l.length : Int))) (fun v => .row k40 40 0 v l) (fun _ => .any Dead) rfl rfl rfl rfl en40 rfl (by repeat (first | exact .z | apply SetAt.s)) (fun w A hW hA => markSales_calls w A _ l 1 (by omega) hln hA) ?_
      | refine Jl.callMv (v := .int .i64 ((kS q 1 q.length : Nat) : Int)) (fun v => .rowS MSS.KSL 69 0 v q) (fun v => .rowS MSS.KSL 69 0 v (markSS q 1)) rfl rfl rfl rfl en41 rfl (by repeat (first | exact .z | apply SetAt.s)) (fun w A hW hA => MSS.calls w A _ q 1 (by omega) hq1 hq2 hA) ?_
      | refine Jl.call1 (v := .int .i64 ((kS q 1 q.length : Nat) : Int)) rfl rfl rfl rfl en42 rfl (fun w hW => by with_reducible exact held_n (hW.rowSCap (by repeat (first | exact memH | refine memT ?_))).1 (hW.rowSC (by repeat (first | exact memH | refine memT ?_))) (hW.rowSCap (by repeat (first | exact memH | refine memT ?_))).2 hhe) ?_
      | refine Jl.splitG rfl rfl (fun h => ?_) (fun h => ?_))
    | (apply gateE; first
      | refine Jl.nil (Ej.go ?_ (fun _ _ h => h))
      | (refine Jl.nil (Ej.back (fun _ _ h => h) (by repeat (first | exact .refl | apply DropTo.tail)) ?_); repeat (first | exact trivial | refine ⟨rfl, ?_⟩)))
    | (apply gateC; first
      | refine Cj.ret rfl (Ej.out1 (P := Try.prog) (fn := Try.f11) (R := fun e w' => e = .returned (.bool true) ∧ Below w.heap.size w w') (fun _ _ h => h) rfl rfl (fun w hW => ⟨rfl, hW.below⟩))
      | refine Cj.condF rfl rfl (Cj.skip rfl (Ej.go ?_ (fun _ _ h => h)))
      | (refine Cj.condF rfl rfl (Cj.skip rfl (Ej.back (fun _ _ h => h) (by repeat (first | exact .refl | apply DropTo.tail)) ?_)); repeat (first | exact trivial | refine ⟨rfl, ?_⟩))
      | refine Cj.condF rfl rfl ?_
      | refine Cj.condT rfl rfl ?_
      | refine Cj.exit rfl (Ej.go ?_ (fun _ _ h => h))
      | refine Cj.cond rfl rfl (fun h => ?_) (fun h => ?_)
      | refine Cj.skip rfl (Ej.go ?_ (fun _ _ h => h))
      | (refine Cj.skip rfl (Ej.back (fun _ _ h => h) (by repeat (first | exact .refl | apply DropTo.tail)) ?_); repeat (first | exact trivial | refine ⟨rfl, ?_⟩))
      | refine Cj.seq rfl ?_
      | refine Cj.region rfl ?_))
/-- The program's YearMeans returns what the reference's returns. -/
theorem full (l0 : List S36) (A0 : Option Addr) (c0 : Nat) (w : World) (hr0 : Kd.C k36 w A0 l0.length l0) (hc0 : l0.length ≤ c0) (hm0 : l0.length ≤ maxLen) : Calls Try.prog 11 #[.slice A0 l0.length c0] w fun e w' => e = .returned (.bool true) ∧ Below w.heap.size w w' := by
  obtain ⟨r, hz, hr⟩ := szSales l0 hm0
  by_cases h1 : r < 0
  · exact walkA l0 A0 c0 w hr0 hc0 r hz h1
  have hls : l0.length ≤ 1048576 := by
    rcases Nat.lt_or_ge 1048576 l0.length with h | h
    · exact absurd (hr.2 h) h1
    · exact h
  have e2 := toSales l0 hls (l0.length + 1) (by omega)
  have hl : (l0.map cvS).length ≤ 1048576 := by simpa using hls
  generalize l0.map cvS = l at e2 hl
  obtain ⟨q, ⟨p1, p2⟩, hS, hI⟩ := yearBoth l hl
  obtain ⟨ks, e3⟩ := hS.rounds
  obtain ⟨ki, e4⟩ := hI.rounds
  have hq2 : ∀ i, i < q.1.length → (nth q.1 i []).length ≤ 1048576 := fun i hi => by rw [p2 _ (nth_mem hi)]; omega
  obtain ⟨ke, e5⟩ := (eqSS q.1 (by omega) hq2).rounds
  obtain ⟨kx, e10⟩ := (heldSS q.1 1 (by omega) (by omega) hq2).rounds
  exact walkC l0 A0 c0 w hr0 hc0 r hz h1 l hl q.1 q.2 _ ks ki ke _ kx e2 e3 e4 e5 (eqSales l hl (l.length + 1) (by omega)) (by omega) hq2 e10
end YM
end Go.Proofs.Ytembbdhhpblapaa.WK
