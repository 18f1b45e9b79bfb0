/- The program's EstimateBy returns what the reference's returns, for all arguments: no condition. -/
import Derived.KernelRfl
import Derived.Test.YtembbdhhpblapaaRows
import Derived.WalkKit
import Derived.ProofKit
import Derived.OpenShut
import Derived.ShutString
import Derived.ChangeOld
import Derived.Below
import Derived.SizedLaws
import Derived.Carry
import Derived.ChangeVars
import Derived.Test.YtembbdhhpblapaaZFnExactEstimateBy5
namespace Go.Proofs.Ytembbdhhpblapaa.WK
open Go Go.RowKit Go.Proofs.Ytembbdhhpblapaa.Q Go.Proofs.Ytembbdhhpblapaa.M Go.Proofs.YtembbdhhpblapaaW.PrintWords Go.Proofs.YtembbdhhpblapaaW.SL
open Go.Proofs.YtembbdhhpblapaaW.Pl (nth nth_get nth_mem)
set_option linter.unusedSimpArgs false
set_option linter.unusedVariables false
set_option maxRecDepth 100000
namespace ES
open Go.Proofs.Ytembbdhhpblapaa.M.EB
open EI (enc encM encO)
theorem agg25 : AggT Try.prog 25 5 := ⟨by kernel_rfl⟩
theorem agg40 : AggT Try.prog 40 7 := ⟨by kernel_rfl⟩
theorem sz40 : SzT Try.prog 40 7 := ⟨by kernel_rfl⟩
theorem sc3 : ScT Try.prog 3 := ⟨by kernel_rfl⟩
theorem fld40_1 : FldT Try.prog 40 1 1 := ⟨by kernel_rfl⟩
theorem fld40_2 : FldT Try.prog 40 2 6 := ⟨by kernel_rfl⟩
theorem zero40 : ZeroT Try.prog 40 [.int .i64 0, .int .i64 0, .int .i64 0, .int .i64 0, .int .i64 0, .bool false, .int .i64 0] := ⟨by kernel_rfl⟩
theorem el46 : ElT Try.prog 46 40 7 := ⟨by kernel_rfl⟩
theorem en63 : Ent Try.prog 63 := ⟨enters_of Try.func63 (by kernel_rfl) rfl⟩
theorem en50 : Ent Try.prog 50 := ⟨enters_of Try.func50 (by kernel_rfl) rfl⟩
theorem en52 : Ent Try.prog 52 := ⟨enters_of Try.func52 (by kernel_rfl) rfl⟩
theorem en54 : Ent Try.prog 54 := ⟨enters_of Try.func54 (by kernel_rfl) rfl⟩
theorem mixed : Try.prog.follows .mixedOrders = true := by kernel_rfl
theorem flat40 : Flat k40 enc 7 := ⟨rfl, encM, fun w x cs h => k40_open h, fun _ => rfl, encO, by decide⟩
theorem ap46 : ApT Try.prog 46 40 7 56 := apT_of (z := .agg #[.int .i64 0, .int .i64 0, .int .i64 0, .int .i64 0, .int .i64 0, .bool false, .int .i64 0]) Try.underlying46 (by kernel_rfl) rfl (by decide)
theorem fill7 (a b c d e f g z0 z1 z2 z3 z4 z5 z6 : Value) : Instr.fill (fun i => some (i * 7, 7)) ((Array.range 7).map (fun j => [z0, z1, z2, z3, z4, z5, z6][j % [z0, z1, z2, z3, z4, z5, z6].length]?.getD default)) [(0, .agg #[a, b, c, d, e, f, g])] = some #[a, b, c, d, e, f, g] := by
  have h : (Array.range 7).map (fun j => [z0, z1, z2, z3, z4, z5, z6][j % [z0, z1, z2, z3, z4, z5, z6].length]?.getD default) = #[z0, z1, z2, z3, z4, z5, z6] := by
    apply Array.toList_inj.1
    rw [Array.toList_map, Array.toList_range]
    rfl
  rw [h]
  simp [Instr.fill, Value.cells, Array.zipIdx]
set_option maxHeartbeats 8000000 in
theorem calls (kk : Nat) (A0 : Option Addr) (c0 : Nat) (l : List S40) (a : S25) (w : World) (hr0 : Kd.C k40 w A0 l.length l) (hc0 : l.length ≤ c0) (hlb : l.length ≤ 1048576) (hk : l.length < kk) : Calls Try.prog 43 #[.slice A0 l.length c0, .agg ([.int .i64 a.f0, .int .i64 a.f1, .int .i64 a.f2, .int .i64 a.f3, .bool a.f4] : List Value).toArray] w fun e w' => e = .returned (.tuple #[.int .i64 (estF l a).1, .bool (estF l a).2]) ∧ Below w.heap.size w w' := by
  let Rr : Ending → World → Prop := fun e w' => e = .returned (.tuple #[.int .i64 (estF l a).1, .bool (estF l a).2]) ∧ Below w.heap.size w w'
  have hG := sGood l hlb kk hk
  have hO := l24One a.f0 a.f1 a.f2 a.f3 a.f4
  refine enterW (args := [.slice A0 l.length c0, .agg ([.int .i64 a.f0, .int .i64 a.f1, .int .i64 a.f2, .int .i64 a.f3, .bool a.f4] : List Value).toArray]) [(fun W => Kd.C k40 W A0 l.length l)] (fun p hp W hb => by rw [List.mem_singleton.1 hp]; exact Kd.C_below hr0 hb) Try.func43 rfl rfl ?_
  show Cj Try.prog _ _ _ (bodyPost Try.prog Try.f43 Rr) _ _ _
  cases hg : goodS l with
  | false =>
    rw [hg] at hG
    have hE : estF l a = (0, false) := by unfold estF; rw [hg]; rfl
    repeat (first
    | (apply gateO; first
      | refine Jl.yd (Y.mv rfl rfl) rfl rfl rfl ?_
      | refine Jl.yd (Y.asg rfl rfl) rfl rfl rfl ?_
      | refine Jl.yd (Y.ext rfl rfl rfl) rfl rfl rfl ?_
      | refine Jl.yd (Y.pickT rfl rfl rfl) rfl rfl rfl ?_
      | refine Jl.yd (Y.pickF rfl rfl rfl) rfl rfl rfl ?_
      | refine Jl.off rfl rfl rfl ?_
      | refine Jl.yd (Y.cmpF rfl rfl rfl rfl (by omega)) rfl rfl rfl ?_
      | refine Jl.yd (Y.cmpT rfl rfl rfl rfl (by omega)) rfl rfl rfl ?_
      | refine Jl.yd (Y.neqB rfl rfl rfl Try.underlying4) rfl rfl rfl ?_
      | refine Jl.yd (Y.cmp rfl rfl rfl rfl) rfl rfl rfl ?_
      | refine Jl.yd (Y.not rfl rfl) rfl rfl rfl ?_
      | refine Jl.yd (Y.arithN rfl rfl rfl rfl (by omega)) rfl rfl rfl ?_
      | refine Jl.yd (Y.arith64 rfl rfl rfl rfl) rfl rfl rfl ?_
      | refine Jl.yd (Y.loadA rfl rfl agg25 (by repeat (first | exact .head _ | refine .tail _ ?_)) (by rfl)) rfl rfl rfl ?_
      | refine Jl.box (zs := [.int .i64 a.f0, .int .i64 a.f1, .int .i64 a.f2, .int .i64 a.f3, .bool a.f4]) rfl rfl rfl rfl rfl (by rfl) (fun g => ?_)
      | refine Jl.call1 (v := .bool false) rfl rfl rfl rfl en63 rfl (fun w hW => by with_reducible exact spec_l24Good.calls kk A0 c0 l false w (hW.fact (p := (fun W => Kd.C k40 W A0 l.length l)) (by repeat (first | exact memH | refine memT ?_))) hc0 hG) ?_
      | refine Jl.splitG rfl rfl (fun h => ?_) (fun h => ?_))
    | (apply gateE; first
      | refine Jl.nil (Ej.go ?_ (fun _ _ h => h))
      | (refine Jl.nil (Ej.back (fun _ _ h => h) (by repeat (first | exact .refl | apply DropTo.tail)) ?_); repeat (first | exact trivial | refine ⟨rfl, ?_⟩)))
    | (apply gateC; first
      | refine Cj.block rfl ?_
      | refine Cj.ret rfl (Ej.out2 (P := Try.prog) (fn := Try.f43) (R := Rr) (fun _ _ h => h) rfl rfl rfl (fun w' hW => ⟨by rw [hE], hW.below⟩))
      | refine Cj.condF rfl rfl (Cj.skip rfl (Ej.go ?_ (fun _ _ h => h)))
      | (refine Cj.condF rfl rfl (Cj.skip rfl (Ej.back (fun _ _ h => h) (by repeat (first | exact .refl | apply DropTo.tail)) ?_)); repeat (first | exact trivial | refine ⟨rfl, ?_⟩))
      | refine Cj.condF rfl rfl ?_
      | refine Cj.condT rfl rfl ?_
      | refine Cj.exit rfl (Ej.go ?_ (fun _ _ h => h))
      | refine Cj.cond rfl rfl (fun h => ?_) (fun h => ?_)
      | refine Cj.skip rfl (Ej.go ?_ (fun _ _ h => h))
      | (refine Cj.skip rfl (Ej.back (fun _ _ h => h) (by repeat (first | exact .refl | apply DropTo.tail)) ?_); repeat (first | exact trivial | refine ⟨rfl, ?_⟩))
      | refine Cj.seq rfl ?_
      | refine Cj.region rfl ?_))
  | true =>
    rw [hg] at hG
    cases ha : okAx a with
    | false =>
      rw [show okA a.f0 a.f1 a.f2 a.f3 = false from ha] at hO
      have hE : estF l a = (0, false) := by unfold estF; rw [hg, ha]; rfl
      repeat (first
    | (apply gateO; first
      | refine Jl.yd (Y.mv rfl rfl) rfl rfl rfl ?_
      | refine Jl.yd (Y.asg rfl rfl) rfl rfl rfl ?_
      | refine Jl.yd (Y.ext rfl rfl rfl) rfl rfl rfl ?_
      | refine Jl.yd (Y.pickT rfl rfl rfl) rfl rfl rfl ?_
      | refine Jl.yd (Y.pickF rfl rfl rfl) rfl rfl rfl ?_
      | refine Jl.off rfl rfl rfl ?_
      | refine Jl.yd (Y.cmpF rfl rfl rfl rfl (by omega)) rfl rfl rfl ?_
      | refine Jl.yd (Y.cmpT rfl rfl rfl rfl (by omega)) rfl rfl rfl ?_
      | refine Jl.yd (Y.neqB rfl rfl rfl Try.underlying4) rfl rfl rfl ?_
      | refine Jl.yd (Y.cmp rfl rfl rfl rfl) rfl rfl rfl ?_
      | refine Jl.yd (Y.not rfl rfl) rfl rfl rfl ?_
      | refine Jl.yd (Y.arithN rfl rfl rfl rfl (by omega)) rfl rfl rfl ?_
      | refine Jl.yd (Y.arith64 rfl rfl rfl rfl) rfl rfl rfl ?_
      | refine Jl.yd (Y.loadA rfl rfl agg25 (by repeat (first | exact .head _ | refine .tail _ ?_)) (by rfl)) rfl rfl rfl ?_
      | refine Jl.box (zs := [.int .i64 a.f0, .int .i64 a.f1, .int .i64 a.f2, .int .i64 a.f3, .bool a.f4]) rfl rfl rfl rfl rfl (by rfl) (fun g => ?_)
      | refine Jl.call1 (v := .bool true) rfl rfl rfl rfl en63 rfl (fun w hW => by with_reducible exact spec_l24Good.calls kk A0 c0 l true w (hW.fact (p := (fun W => Kd.C k40 W A0 l.length l)) (by repeat (first | exact memH | refine memT ?_))) hc0 hG) ?_
      | refine Jl.call1 (v := .bool false) rfl rfl rfl rfl en50 rfl (fun w hW => by with_reducible first | exact spec_l24One.calls a.f0 a.f1 a.f2 a.f3 a.f4 false w hO | exact Calls.mono (spec_l24One.calls a.f0 a.f1 a.f2 a.f3 a.f4 false w hO) (fun _ _ hh => ⟨hh.1, hh.2.below⟩)) ?_
      | refine Jl.splitG rfl rfl (fun h => ?_) (fun h => ?_))
    | (apply gateE; first
      | refine Jl.nil (Ej.go ?_ (fun _ _ h => h))
      | (refine Jl.nil (Ej.back (fun _ _ h => h) (by repeat (first | exact .refl | apply DropTo.tail)) ?_); repeat (first | exact trivial | refine ⟨rfl, ?_⟩)))
    | (apply gateC; first
      | refine Cj.block rfl ?_
      | refine Cj.ret rfl (Ej.out2 (P := Try.prog) (fn := Try.f43) (R := Rr) (fun _ _ h => h) rfl rfl rfl (fun w' hW => ⟨by rw [hE], hW.below⟩))
      | refine Cj.condF rfl rfl (Cj.skip rfl (Ej.go ?_ (fun _ _ h => h)))
      | (refine Cj.condF rfl rfl (Cj.skip rfl (Ej.back (fun _ _ h => h) (by repeat (first | exact .refl | apply DropTo.tail)) ?_)); repeat (first | exact trivial | refine ⟨rfl, ?_⟩))
      | refine Cj.condF rfl rfl ?_
      | refine Cj.condT rfl rfl ?_
      | refine Cj.exit rfl (Ej.go ?_ (fun _ _ h => h))
      | refine Cj.cond rfl rfl (fun h => ?_) (fun h => ?_)
      | refine Cj.skip rfl (Ej.go ?_ (fun _ _ h => h))
      | (refine Cj.skip rfl (Ej.back (fun _ _ h => h) (by repeat (first | exact .refl | apply DropTo.tail)) ?_); repeat (first | exact trivial | refine ⟨rfl, ?_⟩))
      | refine Cj.seq rfl ?_
      | refine Cj.region rfl ?_))
    | true =>
      rw [show okA a.f0 a.f1 a.f2 a.f3 = true from ha] at hO
      have hgood : ∀ x, x ∈ l → okSx x = true := fun x hx => good_mem hg hx
      have hl10 := (goodS_at hg).1
      repeat (first
    | (apply gateO; first
      | refine Jl.yd (Y.mv rfl rfl) rfl rfl rfl ?_
      | refine Jl.yd (Y.asg rfl rfl) rfl rfl rfl ?_
      | refine Jl.yd (Y.ext rfl rfl rfl) rfl rfl rfl ?_
      | refine Jl.yd (Y.pickT rfl rfl rfl) rfl rfl rfl ?_
      | refine Jl.yd (Y.pickF rfl rfl rfl) rfl rfl rfl ?_
      | refine Jl.off rfl rfl rfl ?_
      | refine Jl.yd (Y.cmpF rfl rfl rfl rfl (by omega)) rfl rfl rfl ?_
      | refine Jl.yd (Y.cmpT rfl rfl rfl rfl (by omega)) rfl rfl rfl ?_
      | refine Jl.yd (Y.neqB rfl rfl rfl Try.underlying4) rfl rfl rfl ?_
      | refine Jl.yd (Y.cmp rfl rfl rfl rfl) rfl rfl rfl ?_
      | refine Jl.yd (Y.not rfl rfl) rfl rfl rfl ?_
      | refine Jl.yd (Y.arithN rfl rfl rfl rfl (by omega)) rfl rfl rfl ?_
      | refine Jl.yd (Y.arith64 rfl rfl rfl rfl) rfl rfl rfl ?_
      | refine Jl.yd (Y.loadA rfl rfl agg25 (by repeat (first | exact .head _ | refine .tail _ ?_)) (by rfl)) rfl rfl rfl ?_
      | refine Jl.yd (Y.lenS Try.underlying46 rfl rfl rfl) rfl rfl rfl ?_
      | refine Jl.box (zs := [.int .i64 a.f0, .int .i64 a.f1, .int .i64 a.f2, .int .i64 a.f3, .bool a.f4]) rfl rfl rfl rfl rfl (by rfl) (fun g => ?_)
      | refine Jl.call1 (v := .bool true) rfl rfl rfl rfl en63 rfl (fun w hW => by with_reducible exact spec_l24Good.calls kk A0 c0 l true w (hW.fact (p := (fun W => Kd.C k40 W A0 l.length l)) (by repeat (first | exact memH | refine memT ?_))) hc0 hG) ?_
      | refine Jl.call1 (v := .bool true) rfl rfl rfl rfl en50 rfl (fun w hW => by with_reducible first | exact spec_l24One.calls a.f0 a.f1 a.f2 a.f3 a.f4 true w hO | exact Calls.mono (spec_l24One.calls a.f0 a.f1 a.f2 a.f3 a.f4 true w hO) (fun _ _ hh => ⟨hh.1, hh.2.below⟩)) ?_
      | refine Jl.lit0 k40 rfl rfl rfl rfl el46 (fun g0 => ?_)
      | refine Jl.splitG rfl rfl (fun h => ?_) (fun h => ?_))
    | (apply gateE; first
      | refine Jl.nil (Ej.go ?_ (fun _ _ h => h))
      | (refine Jl.nil (Ej.back (fun _ _ h => h) (by repeat (first | exact .refl | apply DropTo.tail)) ?_); repeat (first | exact trivial | refine ⟨rfl, ?_⟩)))
    | (apply gateC; first
      | refine Cj.block rfl ?_
      | refine Cj.condF rfl rfl (Cj.skip rfl (Ej.go ?_ (fun _ _ h => h)))
      | (refine Cj.condF rfl rfl (Cj.skip rfl (Ej.back (fun _ _ h => h) (by repeat (first | exact .refl | apply DropTo.tail)) ?_)); repeat (first | exact trivial | refine ⟨rfl, ?_⟩))
      | refine Cj.condF rfl rfl ?_
      | refine Cj.condT rfl rfl ?_
      | refine Cj.exit rfl (Ej.go ?_ (fun _ _ h => h))
      | refine Cj.cond rfl rfl (fun h => ?_) (fun h => ?_)
      | refine Cj.skip rfl (Ej.go ?_ (fun _ _ h => h))
      | (refine Cj.skip rfl (Ej.back (fun _ _ h => h) (by repeat (first | exact .refl | apply DropTo.tail)) ?_); repeat (first | exact trivial | refine ⟨rfl, ?_⟩))
      | refine Cj.seq rfl ?_
      | refine Cj.region rfl ?_))
      refine Cj.loopP (ι := Nat × Option Addr × Nat × List S40) (fun q => q.1 ≤ l.length ∧ q.2.2.2 = nearS (l.take q.1) a ∧ q.2.2.2.length ≤ q.2.2.1) (fun q => [(0, .slice A0 l.length c0), (3, .pointer (some ⟨g, 0, none⟩)), (4, .int .i64 0), (5, .bool false), (6, .slice q.2.1 (q.2.2.2 : List S40).length q.2.2.1), (7, .int .i64 (q.1 : Int))]) (fun q => [.row k40 40 0 (.slice q.2.1 (q.2.2.2 : List S40).length q.2.2.1) q.2.2.2, .box g 25 [.int .i64 a.f0, .int .i64 a.f1, .int .i64 a.f2, .int .i64 a.f3, .bool a.f4]]) (fun _ => [(fun W => Kd.C k40 W A0 l.length l)]) (fun q => l.length - q.1) rfl (0, some ⟨g0, 0, none⟩, 0, []) ⟨Nat.zero_le _, rfl, Nat.zero_le _⟩ ⟨rfl, rfl, rfl, rfl, rfl, rfl, trivial⟩ (by repeat (first | exact .nil | refine Pick.cons (by repeat (first | exact .z | apply OutAt.s)) ?_)) (fun p hp => hp) (fun q hq => ?_)
      obtain ⟨i, A, c, s⟩ := q
      dsimp only at hq ⊢
      obtain ⟨hi, hs, hsc⟩ := hq
      have hsl : s.length ≤ 10 := by
        have := near_len (l.take i) a
        rw [List.length_take] at this
        rw [hs]; omega
      by_cases hlt : i < l.length
      · obtain ⟨ad0, rfl⟩ : ∃ ad, A0 = some ad := by
          obtain ⟨ad, e, _⟩ := hr0.2.2 (by omega)
          exact ⟨ad, e⟩
        obtain ⟨x, hx⟩ : ∃ x, l[i]? = some x := ⟨_, List.getElem?_eq_getElem hlt⟩
        have hxm := List.mem_of_getElem? hx
        have hok := hgood x hxm
        have hxo : okA x.f1.f0 x.f1.f1 x.f1.f2 x.f1.f3 = true := (okS_iff.1 hok).2.1
        have hus : enc (l.getD ((i : Int)).toNat z40) = [.int .i64 x.f0, .int .i64 x.f1.f0, .int .i64 x.f1.f1, .int .i64 x.f1.f2, .int .i64 x.f1.f3, .bool x.f1.f4, .int .i64 x.f2] := by
          rw [Int.toNat_natCast, List.getD_eq_getElem?_getD, hx]; rfl
        have hbx : spec_l24Base.f x.f1.f0 x.f1.f1 x.f1.f2 x.f1.f3 x.f1.f4 = some (bAx x.f1) := sBase _ hxo
        have htk : l.take (i + 1) = l.take i ++ [x] := by rw [List.take_add_one, hx]; rfl
        have hal : spec_l24Alike.f x.f1.f0 x.f1.f1 x.f1.f2 x.f1.f3 x.f1.f4 a.f0 a.f1 a.f2 a.f3 a.f4 = some (alS a x) := sAlike _ _ hxo ha
        cases hA : alS a x with
        | false =>
          rw [hA] at hal
          have hE : s = nearS (l.take (i + 1)) a := by rw [htk, near_snoc, hA, if_neg (by decide), hs]
          repeat (first
    | (apply gateO; first
      | refine Jl.yd (Y.mv rfl rfl) rfl rfl rfl ?_
      | refine Jl.yd (Y.asg rfl rfl) rfl rfl rfl ?_
      | refine Jl.yd (Y.ext rfl rfl rfl) rfl rfl rfl ?_
      | refine Jl.yd (Y.pickT rfl rfl rfl) rfl rfl rfl ?_
      | refine Jl.yd (Y.pickF rfl rfl rfl) rfl rfl rfl ?_
      | refine Jl.off rfl rfl rfl ?_
      | refine Jl.yd (Y.cmpF rfl rfl rfl rfl (by omega)) rfl rfl rfl ?_
      | refine Jl.yd (Y.cmpT rfl rfl rfl rfl (by omega)) rfl rfl rfl ?_
      | refine Jl.yd (Y.neqB rfl rfl rfl Try.underlying4) rfl rfl rfl ?_
      | refine Jl.yd (Y.cmp rfl rfl rfl rfl) rfl rfl rfl ?_
      | refine Jl.yd (Y.not rfl rfl) rfl rfl rfl ?_
      | refine Jl.yd (Y.arithN rfl rfl rfl rfl (by omega)) rfl rfl rfl ?_
      | refine Jl.yd (Y.arith64 rfl rfl rfl rfl) rfl rfl rfl ?_
      | refine Jl.yd (Y.lenS Try.underlying46 rfl rfl rfl) rfl rfl rfl ?_
      | refine Jl.yd (Y.idx rfl rfl rfl el46 (by omega) (by omega)) rfl rfl rfl ?_
      | refine Jl.yd (Y.loadKS z40 [.int .i64 x.f0, .int .i64 x.f1.f0, .int .i64 x.f1.f1, .int .i64 x.f1.f2, .int .i64 x.f1.f3, .bool x.f1.f4, .int .i64 x.f2] [.int .i64 x.f1.f0, .int .i64 x.f1.f1, .int .i64 x.f1.f2, .int .i64 x.f1.f3, .bool x.f1.f4] 1 rfl rfl agg25 (by repeat (first | exact .head _ | refine .tail _ ?_)) ((i : Int)) (by omega) (by omega) rfl (fun w cs h => (k40_open h).trans hus) rfl rfl) rfl rfl rfl ?_
      | refine Jl.yd (Y.loadA rfl rfl agg25 (by repeat (first | exact .head _ | refine .tail _ ?_)) (by rfl)) rfl rfl rfl ?_
      | refine Jl.yd (Y.fld rfl rfl fld40_1) rfl rfl rfl ?_
      | refine Jl.yd (Y.fld rfl rfl fld40_2) rfl rfl rfl ?_
      | refine Jl.call1 (v := .bool false) rfl rfl rfl rfl en52 rfl (fun w hW => by with_reducible first | exact spec_l24Alike.calls x.f1.f0 x.f1.f1 x.f1.f2 x.f1.f3 x.f1.f4 a.f0 a.f1 a.f2 a.f3 a.f4 false w hal | exact Calls.mono (spec_l24Alike.calls x.f1.f0 x.f1.f1 x.f1.f2 x.f1.f3 x.f1.f4 a.f0 a.f1 a.f2 a.f3 a.f4 false w hal) (fun _ _ hh => ⟨hh.1, hh.2.below⟩)) ?_
      | refine Jl.splitG rfl rfl (fun h => ?_) (fun h => ?_))
    | (apply gateE; first
      | refine Jl.nil (Ej.go ?_ (fun _ _ h => h))
      | (refine Jl.nil (Ej.back (fun _ _ h => h) (by repeat (first | exact .refl | apply DropTo.tail)) ?_); repeat (first | exact trivial | refine ⟨rfl, ?_⟩)))
    | (apply gateC; first
      | refine Cj.regionD rfl (mkD [0, 1, 2, 3, 4, 5, 7] []) [] [0, 1, 2, 3, 4, 5, 6, 7] mixed (by decide +kernel) ?_
      | refine Cj.block rfl ?_
      | refine Cj.condF rfl rfl (Cj.skip rfl (Ej.go ?_ (fun _ _ h => h)))
      | (refine Cj.condF rfl rfl (Cj.skip rfl (Ej.back (fun _ _ h => h) (by repeat (first | exact .refl | apply DropTo.tail)) ?_)); repeat (first | exact trivial | refine ⟨rfl, ?_⟩))
      | refine Cj.condF rfl rfl ?_
      | refine Cj.condT rfl rfl ?_
      | refine Cj.exit rfl (Ej.go ?_ (fun _ _ h => h))
      | refine Cj.cond rfl rfl (fun h => ?_) (fun h => ?_)
      | refine Cj.skip rfl (Ej.go ?_ (fun _ _ h => h))
      | (refine Cj.skip rfl (Ej.back (fun _ _ h => h) (by repeat (first | exact .refl | apply DropTo.tail)) ?_); repeat (first | exact trivial | refine ⟨rfl, ?_⟩))
      | refine Cj.seq rfl ?_
      | refine Cj.region rfl ?_))
          refine Jl.nil (Ej.cutP (ι := Nat × Option Addr × Nat × List S40) _ _ _ _ (fun _ _ h => h) (i + 1, A, c, s) ⟨⟨by omega, hE, hsc⟩, by dsimp only; omega⟩ ⟨rfl, rfl, rfl, rfl, rfl, rfl, trivial⟩ (by repeat (first | exact .nil | refine Pick.cons (by repeat (first | exact .z | apply OutAt.s)) ?_)) (fun p hp => hp))
        | true =>
          rw [hA] at hal
          have hE : insR ltS s x = nearS (l.take (i + 1)) a := by rw [htk, near_snoc, hA, if_pos rfl, hs]
          refine Cj.ws (ι := Unit) (fun _ => s.length ≠ 0 → ∃ ad, A = some ad) (fun _ => [.box g 25 [.int .i64 a.f0, .int .i64 a.f1, .int .i64 a.f2, .int .i64 a.f3, .bool a.f4]]) (fun _ => [(fun W => Kd.C k40 W A s.length s), (fun W => Kd.C k40 W (some ad0) l.length l)]) (fun w' hW => ⟨(), (fun h0 => by
            obtain ⟨ad, e, _⟩ := (hW.rowC memH).2.2 (by omega)
            exact ⟨ad, e⟩), (hW.freeze (n := 0) rfl (p := (fun W => Kd.C k40 W A s.length s)) (fun W A' hA' => (Kd.R_reads' hA'.1).2.2))⟩) (fun _ hAn => ?_)
          repeat (first
    | (apply gateO; first
      | refine Jl.yd (Y.mv rfl rfl) rfl rfl rfl ?_
      | refine Jl.yd (Y.asg rfl rfl) rfl rfl rfl ?_
      | refine Jl.yd (Y.ext rfl rfl rfl) rfl rfl rfl ?_
      | refine Jl.yd (Y.pickT rfl rfl rfl) rfl rfl rfl ?_
      | refine Jl.yd (Y.pickF rfl rfl rfl) rfl rfl rfl ?_
      | refine Jl.off rfl rfl rfl ?_
      | refine Jl.yd (Y.cmpF rfl rfl rfl rfl (by omega)) rfl rfl rfl ?_
      | refine Jl.yd (Y.cmpT rfl rfl rfl rfl (by omega)) rfl rfl rfl ?_
      | refine Jl.yd (Y.neqB rfl rfl rfl Try.underlying4) rfl rfl rfl ?_
      | refine Jl.yd (Y.cmp rfl rfl rfl rfl) rfl rfl rfl ?_
      | refine Jl.yd (Y.not rfl rfl) rfl rfl rfl ?_
      | refine Jl.yd (Y.arithN rfl rfl rfl rfl (by omega)) rfl rfl rfl ?_
      | refine Jl.yd (Y.arith64 rfl rfl rfl rfl) rfl rfl rfl ?_
      | refine Jl.yd (Y.lenS Try.underlying46 rfl rfl rfl) rfl rfl rfl ?_
      | refine Jl.yd (Y.idx rfl rfl rfl el46 (by omega) (by omega)) rfl rfl rfl ?_
      | refine Jl.yd (Y.loadKS z40 [.int .i64 x.f0, .int .i64 x.f1.f0, .int .i64 x.f1.f1, .int .i64 x.f1.f2, .int .i64 x.f1.f3, .bool x.f1.f4, .int .i64 x.f2] [.int .i64 x.f1.f0, .int .i64 x.f1.f1, .int .i64 x.f1.f2, .int .i64 x.f1.f3, .bool x.f1.f4] 1 rfl rfl agg25 (by repeat (first | exact .head _ | refine .tail _ ?_)) ((i : Int)) (by omega) (by omega) rfl (fun w cs h => (k40_open h).trans hus) rfl rfl) rfl rfl rfl ?_
      | refine Jl.yd (Y.loadA rfl rfl agg25 (by repeat (first | exact .head _ | refine .tail _ ?_)) (by rfl)) rfl rfl rfl ?_
      | refine Jl.yd (Y.fld rfl rfl fld40_1) rfl rfl rfl ?_
      | refine Jl.yd (Y.fld rfl rfl fld40_2) rfl rfl rfl ?_
      | refine Jl.call1 (v := .bool true) rfl rfl rfl rfl en52 rfl (fun w hW => by with_reducible first | exact spec_l24Alike.calls x.f1.f0 x.f1.f1 x.f1.f2 x.f1.f3 x.f1.f4 a.f0 a.f1 a.f2 a.f3 a.f4 true w hal | exact Calls.mono (spec_l24Alike.calls x.f1.f0 x.f1.f1 x.f1.f2 x.f1.f3 x.f1.f4 a.f0 a.f1 a.f2 a.f3 a.f4 true w hal) (fun _ _ hh => ⟨hh.1, hh.2.below⟩)) ?_
      | refine Jl.splitG rfl rfl (fun h => ?_) (fun h => ?_))
    | (apply gateE; first
      | refine Jl.nil (Ej.go ?_ (fun _ _ h => h))
      | (refine Jl.nil (Ej.back (fun _ _ h => h) (by repeat (first | exact .refl | apply DropTo.tail)) ?_); repeat (first | exact trivial | refine ⟨rfl, ?_⟩)))
    | (apply gateC; first
      | refine Cj.regionD rfl (mkD [0, 1, 2, 3, 4, 5, 7] []) [] [0, 1, 2, 3, 4, 5, 6, 7] mixed (by decide +kernel) ?_
      | refine Cj.block rfl ?_
      | refine Cj.condF rfl rfl (Cj.skip rfl (Ej.go ?_ (fun _ _ h => h)))
      | (refine Cj.condF rfl rfl (Cj.skip rfl (Ej.back (fun _ _ h => h) (by repeat (first | exact .refl | apply DropTo.tail)) ?_)); repeat (first | exact trivial | refine ⟨rfl, ?_⟩))
      | refine Cj.condF rfl rfl ?_
      | refine Cj.condT rfl rfl ?_
      | refine Cj.exit rfl (Ej.go ?_ (fun _ _ h => h))
      | refine Cj.cond rfl rfl (fun h => ?_) (fun h => ?_)
      | refine Cj.skip rfl (Ej.go ?_ (fun _ _ h => h))
      | (refine Cj.skip rfl (Ej.back (fun _ _ h => h) (by repeat (first | exact .refl | apply DropTo.tail)) ?_); repeat (first | exact trivial | refine ⟨rfl, ?_⟩))
      | refine Cj.seq rfl ?_
      | refine Cj.region rfl ?_))
          refine Cj.loopP (ι := Nat) (fun q => q ≤ s.length ∧ goI ltS x (s.take q).reverse (s.drop q) = insR ltS s x) (fun q => [(0, .slice (some ad0) l.length c0), (3, .pointer (some ⟨g, 0, none⟩)), (4, .int .i64 0), (5, .bool false), (6, .slice A (s : List S40).length c), (7, .int .i64 (i : Int)), (8, .int .i64 (q : Int))]) (fun _ => [.box g 25 [.int .i64 a.f0, .int .i64 a.f1, .int .i64 a.f2, .int .i64 a.f3, .bool a.f4]]) (fun _ => [(fun W => Kd.C k40 W A s.length s), (fun W => Kd.C k40 W (some ad0) l.length l)]) (fun q => q) rfl s.length ⟨Nat.le_refl _, by rw [List.take_length, List.drop_length]; rfl⟩ ⟨rfl, rfl, rfl, rfl, rfl, rfl, rfl, trivial⟩ (by repeat (first | exact .nil | refine Pick.cons (by repeat (first | exact .z | apply OutAt.s)) ?_)) (fun p hp => hp) (fun k hk2 => ?_)
          try dsimp only at hk2 ⊢
          obtain ⟨hks, hgo⟩ := hk2
          rcases Nat.eq_zero_or_pos k with hk0 | hk0
          · have fin : (([] ++ s.take k) ++ [x]) ++ s.drop k = insR ltS s x := by
              rw [← hgo, hk0]; simp [goI]
            refine Cj.ws (ι := Unit) (fun _ => True) (fun _ => [.box g 25 [.int .i64 a.f0, .int .i64 a.f1, .int .i64 a.f2, .int .i64 a.f3, .bool a.f4]]) (fun _ => [(fun W => Kd.C k40 W A (s.take k).length (s.take k)), (fun W => Kd.C k40 W (if c = ((k : Int)).toNat then A else A.map (·.add (((k : Int)).toNat * 7))) (s.drop k).length (s.drop k)), (fun W => Kd.C k40 W A s.length s), (fun W => Kd.C k40 W (some ad0) l.length l)]) (fun w' hW => ⟨(), trivial, ((hW.both (p := (fun W => Kd.C k40 W A s.length s)) (q := (fun W => Kd.C k40 W A s.length s)) (r := (fun W => Kd.C k40 W (if c = ((k : Int)).toNat then A else A.map (·.add (((k : Int)).toNat * 7))) (s.drop k).length (s.drop k))) memH memH (fun W h _ => by rw [Int.toNat_natCast]; exact Kd.C_drop h hks hsc)).both (p := (fun W => Kd.C k40 W A s.length s)) (q := (fun W => Kd.C k40 W A s.length s)) (r := (fun W => Kd.C k40 W A (s.take k).length (s.take k))) (memT memH) (memT memH) (fun W h _ => Kd.C_take h hks))⟩) (fun _ _ => ?_)
            repeat (first
    | (apply gateO; first
      | refine Jl.yd (Y.mv rfl rfl) rfl rfl rfl ?_
      | refine Jl.yd (Y.asg rfl rfl) rfl rfl rfl ?_
      | refine Jl.yd (Y.ext rfl rfl rfl) rfl rfl rfl ?_
      | refine Jl.yd (Y.pickT rfl rfl rfl) rfl rfl rfl ?_
      | refine Jl.yd (Y.pickF rfl rfl rfl) rfl rfl rfl ?_
      | refine Jl.off rfl rfl rfl ?_
      | refine Jl.yd (Y.cmpF rfl rfl rfl rfl (by omega)) rfl rfl rfl ?_
      | refine Jl.yd (Y.cmpT rfl rfl rfl rfl (by omega)) rfl rfl rfl ?_
      | refine Jl.yd (Y.neqB rfl rfl rfl Try.underlying4) rfl rfl rfl ?_
      | refine Jl.yd (Y.cmp rfl rfl rfl rfl) rfl rfl rfl ?_
      | refine Jl.yd (Y.not rfl rfl) rfl rfl rfl ?_
      | refine Jl.yd (Y.arithN rfl rfl rfl rfl (by omega)) rfl rfl rfl ?_
      | refine Jl.yd (Y.arith64 rfl rfl rfl rfl) rfl rfl rfl ?_
      | refine Jl.yd (Y.lenS Try.underlying46 rfl rfl rfl) rfl rfl rfl ?_
      | refine Jl.yd (Y.idx rfl rfl rfl el46 (by omega) (by omega)) rfl rfl rfl ?_
      | refine Jl.yd (Y.loadK1 z40 [.int .i64 y.f0, .int .i64 y.f1.f0, .int .i64 y.f1.f1, .int .i64 y.f1.f2, .int .i64 y.f1.f3, .bool y.f1.f4, .int .i64 y.f2] rfl rfl sc3 (by repeat (first | exact .head _ | refine .tail _ ?_)) (((k : Int) - 1)) 6 (by omega) (by omega) (by rfl) (fun w cs h => (k40_open h).trans huy) rfl) rfl rfl rfl ?_
      | refine Jl.yd (Y.loadKS z40 [.int .i64 y.f0, .int .i64 y.f1.f0, .int .i64 y.f1.f1, .int .i64 y.f1.f2, .int .i64 y.f1.f3, .bool y.f1.f4, .int .i64 y.f2] [.int .i64 y.f1.f0, .int .i64 y.f1.f1, .int .i64 y.f1.f2, .int .i64 y.f1.f3, .bool y.f1.f4] 1 rfl rfl agg25 (by repeat (first | exact .head _ | refine .tail _ ?_)) (((k : Int) - 1)) (by omega) (by omega) rfl (fun w cs h => (k40_open h).trans huy) rfl rfl) rfl rfl rfl ?_
      | refine Jl.yd (Y.loadK1 z40 [.int .i64 x.f0, .int .i64 x.f1.f0, .int .i64 x.f1.f1, .int .i64 x.f1.f2, .int .i64 x.f1.f3, .bool x.f1.f4, .int .i64 x.f2] rfl rfl sc3 (by repeat (first | exact .head _ | refine .tail _ ?_)) ((i : Int)) 6 (by omega) (by omega) (by rfl) (fun w cs h => (k40_open h).trans hus) rfl) rfl rfl rfl ?_
      | refine Jl.yd (Y.loadKS z40 [.int .i64 x.f0, .int .i64 x.f1.f0, .int .i64 x.f1.f1, .int .i64 x.f1.f2, .int .i64 x.f1.f3, .bool x.f1.f4, .int .i64 x.f2] [.int .i64 x.f1.f0, .int .i64 x.f1.f1, .int .i64 x.f1.f2, .int .i64 x.f1.f3, .bool x.f1.f4] 1 rfl rfl agg25 (by repeat (first | exact .head _ | refine .tail _ ?_)) ((i : Int)) (by omega) (by omega) rfl (fun w cs h => (k40_open h).trans hus) rfl rfl) rfl rfl rfl ?_
      | refine Jl.call1 (v := .int .i64 (bAx x.f1)) rfl rfl rfl rfl en54 rfl (fun w hW => by with_reducible first | exact spec_l24Base.calls x.f1.f0 x.f1.f1 x.f1.f2 x.f1.f3 x.f1.f4 (bAx x.f1) w hbx | exact Calls.mono (spec_l24Base.calls x.f1.f0 x.f1.f1 x.f1.f2 x.f1.f3 x.f1.f4 (bAx x.f1) w hbx) (fun _ _ hh => ⟨hh.1, hh.2.below⟩)) ?_
      | refine Jl.call1 (v := .int .i64 (bAx y.f1)) rfl rfl rfl rfl en54 rfl (fun w hW => by with_reducible first | exact spec_l24Base.calls y.f1.f0 y.f1.f1 y.f1.f2 y.f1.f3 y.f1.f4 (bAx y.f1) w hby | exact Calls.mono (spec_l24Base.calls y.f1.f0 y.f1.f1 y.f1.f2 y.f1.f3 y.f1.f4 (bAx y.f1) w hby) (fun _ _ hh => ⟨hh.1, hh.2.below⟩)) ?_
      | refine Jl.yd (Y.fld rfl rfl fld40_1) rfl rfl rfl ?_
      | refine Jl.yd (Y.fld rfl rfl fld40_2) rfl rfl rfl ?_
      | refine Jl.splitG rfl rfl (fun h => ?_) (fun h => ?_))
    | (apply gateE; first
      | refine Jl.nil (Ej.go ?_ (fun _ _ h => h))
      | (refine Jl.nil (Ej.back (fun _ _ h => h) (by repeat (first | exact .refl | apply DropTo.tail)) ?_); repeat (first | exact trivial | refine ⟨rfl, ?_⟩)))
    | (apply gateC; first
      | refine Cj.block rfl ?_
      | refine Cj.regionD rfl (mkD [0, 1, 2, 3, 4, 5, 6, 7, 8, 9, 10, 11, 12, 13, 14, 15, 16, 17, 18, 19, 20, 21, 22, 23, 24, 26, 28, 29, 30] []) [] [0, 1, 2, 3, 4, 5, 6, 7, 8, 9, 10, 11, 12, 13, 16, 17, 18, 19, 20, 21, 22, 23, 24, 25, 26, 14, 15, 27, 28, 29, 30] mixed (by decide +kernel) ?_
      | refine Cj.condF rfl rfl (Cj.skip rfl (Ej.go ?_ (fun _ _ h => h)))
      | (refine Cj.condF rfl rfl (Cj.skip rfl (Ej.back (fun _ _ h => h) (by repeat (first | exact .refl | apply DropTo.tail)) ?_)); repeat (first | exact trivial | refine ⟨rfl, ?_⟩))
      | refine Cj.condF rfl rfl ?_
      | refine Cj.condT rfl rfl ?_
      | refine Cj.exit rfl (Ej.go ?_ (fun _ _ h => h))
      | refine Cj.cond rfl rfl (fun h => ?_) (fun h => ?_)
      | refine Cj.skip rfl (Ej.go ?_ (fun _ _ h => h))
      | (refine Cj.skip rfl (Ej.back (fun _ _ h => h) (by repeat (first | exact .refl | apply DropTo.tail)) ?_); repeat (first | exact trivial | refine ⟨rfl, ?_⟩))
      | refine Cj.seq rfl ?_
      | refine Cj.region rfl ?_))
            refine Cj.regionJ rfl [0, 4, 8, 9, 10, 14] mixed ?_
            refine Jw.take 1 rfl (by decide +kernel) (by intro c a d v w h; cases d <;> exact h) (fun w => Y.mv rfl rfl) rfl rfl rfl ?_
            refine Jw.take 2 rfl (by decide +kernel) (by intro c a d v w h; cases d <;> exact h) (fun w => Y.mv rfl rfl) rfl rfl rfl ?_
            refine Jw.take 5 rfl (by decide +kernel) (by intro c a d v w h; cases d <;> exact h) (fun w => Y.mv rfl rfl) rfl rfl rfl ?_
            refine Jw.take 6 rfl (by decide +kernel) (by intro c a d v w h; cases d <;> exact h) (fun w => Y.mv rfl rfl) rfl rfl rfl ?_
            refine Jw.take 11 rfl (by decide +kernel) (by intro c a d v w h; cases d <;> exact h) (fun w => Y.mv rfl rfl) rfl rfl rfl ?_
            refine Jw.take 12 rfl (by decide +kernel) (by intro c a d v w h; cases d <;> exact h) (fun w => Y.mv rfl rfl) rfl rfl rfl ?_
            refine Jw.take 3 rfl (by decide +kernel) (by intro c a d v w h; cases d <;> exact h) (fun w => Y.sliTo rfl rfl rfl el46 (by omega) (by omega)) rfl rfl rfl ?_
            refine Jw.take 7 rfl (by decide +kernel) (by intro c a d v w h; cases d <;> exact h) (fun w => Y.idx rfl rfl rfl el46 (by omega) (by omega)) rfl rfl rfl ?_
            refine Jw.take 13 rfl (by decide +kernel) (by intro c a d v w h; cases d <;> exact h) (fun w => Y.sliFrom rfl rfl rfl el46 (by omega) (by omega)) rfl rfl rfl ?_
            refine Jw.br2 (mkD [] [0]) 0 8 rfl rfl (by decide +kernel) rfl rfl ?_ ?_
            · skip
              refine Jl.lit0 k40 rfl rfl rfl rfl el46 (fun g0 => ?_)
              refine Jl.jw ?_
              refine Jw.br2 (mkD [] [0]) 4 8 rfl rfl (by decide +kernel) rfl rfl ?_ ?_
              · skip
                refine Jl.appF (enc := enc) flat40 (xs := []) (zs := s.take k) rfl rfl rfl rfl rfl rfl ap46 (by rw [List.length_take]; omega) (by repeat (first | exact memH | refine memT ?_)) (by repeat (first | exact .z | apply OutAt.s)) (by (try simp only [List.length_append, List.length_cons, List.length_nil, List.length_take, List.length_drop]); omega) (by (try simp only [List.length_append, List.length_cons, List.length_nil, List.length_take, List.length_drop]); omega) (fun A4 c4 h4 => ?_)
                refine Jl.jw ?_
                refine Jw.step (mkD [] [0]) 8 rfl (by decide +kernel) rfl rfl ?_
                refine Jl.yd (Y.loadK z40 [.int .i64 x.f0, .int .i64 x.f1.f0, .int .i64 x.f1.f1, .int .i64 x.f1.f2, .int .i64 x.f1.f3, .bool x.f1.f4, .int .i64 x.f2] rfl rfl agg40 (by repeat (first | exact .head _ | refine .tail _ ?_)) ((i : Int)) (by omega) (by omega) (by rfl) (fun w cs h => (k40_open h).trans hus) (by rfl)) rfl rfl rfl ?_
                refine Jl.jw ?_
                refine Jw.step (mkD [] [0]) 9 rfl (by decide +kernel) rfl rfl ?_
                refine Jl.litS (us := [.int .i64 x.f0, .int .i64 x.f1.f0, .int .i64 x.f1.f1, .int .i64 x.f1.f2, .int .i64 x.f1.f3, .bool x.f1.f4, .int .i64 x.f2]) (zs := [.int .i64 0, .int .i64 0, .int .i64 0, .int .i64 0, .int .i64 0, .bool false, .int .i64 0]) rfl rfl rfl rfl rfl el46 zero40 rfl rfl (fill7 _ _ _ _ _ _ _ _ _ _ _ _ _ _) (fun g9 => ?_)
                refine Jl.jw ?_
                refine Jw.step (mkD [] [0]) 10 rfl (by decide +kernel) rfl rfl ?_
                refine Jl.app (dk := k40) (xs := [] ++ s.take k) x (fun _ => False) rfl rfl rfl rfl rfl rfl ap46 (by repeat (first | exact .head _ | refine .tail _ ?_)) rfl (fun w => k40_mkM w 0 (fun _ => False) x) (encO x) (by repeat (first | exact .z | apply OutAt.s)) (by (try simp only [List.length_append, List.length_cons, List.length_nil, List.length_take, List.length_drop]); omega) (by (try simp only [List.length_append, List.length_cons, List.length_nil, List.length_take, List.length_drop]); omega) (fun A10 c10 h10 => ?_)
                refine Jl.jw ?_
                refine Jw.step (mkD [] [0]) 14 rfl (by decide +kernel) rfl rfl ?_
                refine Jl.appF (enc := enc) flat40 (xs := ([] ++ s.take k) ++ [x]) (zs := s.drop k) rfl rfl rfl rfl rfl rfl ap46 (by rw [List.length_drop]; omega) (by repeat (first | exact memH | refine memT ?_)) (by repeat (first | exact .z | apply OutAt.s)) (by (try simp only [List.length_append, List.length_cons, List.length_nil, List.length_take, List.length_drop]); omega) (by (try simp only [List.length_append, List.length_cons, List.length_nil, List.length_take, List.length_drop]); omega) (fun A14 c14 h14 => ?_)
                refine Jl.jw ?_
                refine Jw.take 15 rfl (by decide +kernel) (by intro c a d v w h; cases d <;> exact h) (fun w => Y.asg rfl rfl) rfl rfl rfl ?_
                refine Jw.done (by decide +kernel) (Ej.go ?_ (fun _ _ h => h))
                repeat (first
                    | (apply gateO; first
                      | refine Jl.yd (Y.mv rfl rfl) rfl rfl rfl ?_
                      | refine Jl.yd (Y.asg rfl rfl) rfl rfl rfl ?_
                      | refine Jl.yd (Y.ext rfl rfl rfl) rfl rfl rfl ?_
                      | refine Jl.yd (Y.pickT rfl rfl rfl) rfl rfl rfl ?_
                      | refine Jl.yd (Y.pickF rfl rfl rfl) rfl rfl rfl ?_
                      | refine Jl.off rfl rfl rfl ?_
                      | refine Jl.yd (Y.cmpF rfl rfl rfl rfl (by omega)) rfl rfl rfl ?_
                      | refine Jl.yd (Y.cmpT rfl rfl rfl rfl (by omega)) rfl rfl rfl ?_
                      | refine Jl.yd (Y.neqB rfl rfl rfl Try.underlying4) rfl rfl rfl ?_
                      | refine Jl.yd (Y.cmp rfl rfl rfl rfl) rfl rfl rfl ?_
                      | refine Jl.yd (Y.not rfl rfl) rfl rfl rfl ?_
                      | refine Jl.yd (Y.arithN rfl rfl rfl rfl (by omega)) rfl rfl rfl ?_
                      | refine Jl.yd (Y.arith64 rfl rfl rfl rfl) rfl rfl rfl ?_
                      | refine Jl.splitG rfl rfl (fun h => ?_) (fun h => ?_))
                    | (apply gateE; first
                      | refine Jl.nil (Ej.go ?_ (fun _ _ h => h))
                      | (refine Jl.nil (Ej.back (fun _ _ h => h) (by repeat (first | exact .refl | apply DropTo.tail)) ?_); repeat (first | exact trivial | refine ⟨rfl, ?_⟩)))
                    | (apply gateC; first
                      | refine Cj.block rfl ?_
                      | refine Cj.condF rfl rfl (Cj.skip rfl (Ej.go ?_ (fun _ _ h => h)))
                      | (refine Cj.condF rfl rfl (Cj.skip rfl (Ej.back (fun _ _ h => h) (by repeat (first | exact .refl | apply DropTo.tail)) ?_)); repeat (first | exact trivial | refine ⟨rfl, ?_⟩))
                      | refine Cj.condF rfl rfl ?_
                      | refine Cj.condT rfl rfl ?_
                      | refine Cj.exit rfl (Ej.go ?_ (fun _ _ h => h))
                      | refine Cj.cond rfl rfl (fun h => ?_) (fun h => ?_)
                      | refine Cj.skip rfl (Ej.go ?_ (fun _ _ h => h))
                      | (refine Cj.skip rfl (Ej.back (fun _ _ h => h) (by repeat (first | exact .refl | apply DropTo.tail)) ?_); repeat (first | exact trivial | refine ⟨rfl, ?_⟩))
                      | refine Cj.seq rfl ?_
                      | refine Cj.region rfl ?_))
                refine Jl.nil (Ej.cutP (ι := Nat × Option Addr × Nat × List S40) _ _ _ _ (fun _ _ h => h) (i + 1, A14, c14, (([] ++ s.take k) ++ [x]) ++ s.drop k) ⟨⟨by omega, fin.trans hE, h14⟩, by dsimp only; omega⟩ ⟨rfl, rfl, rfl, rfl, rfl, rfl, trivial⟩ (by repeat (first | exact .nil | refine Pick.cons (by repeat (first | exact .z | apply OutAt.s)) ?_)) (fun p hp => by rw [List.mem_singleton.1 hp]; exact memT (memT (memT memH))))
              · skip
                refine Jl.yd (Y.loadK z40 [.int .i64 x.f0, .int .i64 x.f1.f0, .int .i64 x.f1.f1, .int .i64 x.f1.f2, .int .i64 x.f1.f3, .bool x.f1.f4, .int .i64 x.f2] rfl rfl agg40 (by repeat (first | exact .head _ | refine .tail _ ?_)) ((i : Int)) (by omega) (by omega) (by rfl) (fun w cs h => (k40_open h).trans hus) (by rfl)) rfl rfl rfl ?_
                refine Jl.jw ?_
                refine Jw.br2 (mkD [] [0]) 4 9 rfl rfl (by decide +kernel) rfl rfl ?_ ?_
                · skip
                  refine Jl.appF (enc := enc) flat40 (xs := []) (zs := s.take k) rfl rfl rfl rfl rfl rfl ap46 (by rw [List.length_take]; omega) (by repeat (first | exact memH | refine memT ?_)) (by repeat (first | exact .z | apply OutAt.s)) (by (try simp only [List.length_append, List.length_cons, List.length_nil, List.length_take, List.length_drop]); omega) (by (try simp only [List.length_append, List.length_cons, List.length_nil, List.length_take, List.length_drop]); omega) (fun A4 c4 h4 => ?_)
                  refine Jl.jw ?_
                  refine Jw.step (mkD [] [0]) 9 rfl (by decide +kernel) rfl rfl ?_
                  refine Jl.litS (us := [.int .i64 x.f0, .int .i64 x.f1.f0, .int .i64 x.f1.f1, .int .i64 x.f1.f2, .int .i64 x.f1.f3, .bool x.f1.f4, .int .i64 x.f2]) (zs := [.int .i64 0, .int .i64 0, .int .i64 0, .int .i64 0, .int .i64 0, .bool false, .int .i64 0]) rfl rfl rfl rfl rfl el46 zero40 rfl rfl (fill7 _ _ _ _ _ _ _ _ _ _ _ _ _ _) (fun g9 => ?_)
                  refine Jl.jw ?_
                  refine Jw.step (mkD [] [0]) 10 rfl (by decide +kernel) rfl rfl ?_
                  refine Jl.app (dk := k40) (xs := [] ++ s.take k) x (fun _ => False) rfl rfl rfl rfl rfl rfl ap46 (by repeat (first | exact .head _ | refine .tail _ ?_)) rfl (fun w => k40_mkM w 0 (fun _ => False) x) (encO x) (by repeat (first | exact .z | apply OutAt.s)) (by (try simp only [List.length_append, List.length_cons, List.length_nil, List.length_take, List.length_drop]); omega) (by (try simp only [List.length_append, List.length_cons, List.length_nil, List.length_take, List.length_drop]); omega) (fun A10 c10 h10 => ?_)
                  refine Jl.jw ?_
                  refine Jw.step (mkD [] [0]) 14 rfl (by decide +kernel) rfl rfl ?_
                  refine Jl.appF (enc := enc) flat40 (xs := ([] ++ s.take k) ++ [x]) (zs := s.drop k) rfl rfl rfl rfl rfl rfl ap46 (by rw [List.length_drop]; omega) (by repeat (first | exact memH | refine memT ?_)) (by repeat (first | exact .z | apply OutAt.s)) (by (try simp only [List.length_append, List.length_cons, List.length_nil, List.length_take, List.length_drop]); omega) (by (try simp only [List.length_append, List.length_cons, List.length_nil, List.length_take, List.length_drop]); omega) (fun A14 c14 h14 => ?_)
                  refine Jl.jw ?_
                  refine Jw.take 15 rfl (by decide +kernel) (by intro c a d v w h; cases d <;> exact h) (fun w => Y.asg rfl rfl) rfl rfl rfl ?_
                  refine Jw.done (by decide +kernel) (Ej.go ?_ (fun _ _ h => h))
                  repeat (first
                      | (apply gateO; first
                        | refine Jl.yd (Y.mv rfl rfl) rfl rfl rfl ?_
                        | refine Jl.yd (Y.asg rfl rfl) rfl rfl rfl ?_
                        | refine Jl.yd (Y.ext rfl rfl rfl) rfl rfl rfl ?_
                        | refine Jl.yd (Y.pickT rfl rfl rfl) rfl rfl rfl ?_
                        | refine Jl.yd (Y.pickF rfl rfl rfl) rfl rfl rfl ?_
                        | refine Jl.off rfl rfl rfl ?_
                        | refine Jl.yd (Y.cmpF rfl rfl rfl rfl (by omega)) rfl rfl rfl ?_
                        | refine Jl.yd (Y.cmpT rfl rfl rfl rfl (by omega)) rfl rfl rfl ?_
                        | refine Jl.yd (Y.neqB rfl rfl rfl Try.underlying4) rfl rfl rfl ?_
                        | refine Jl.yd (Y.cmp rfl rfl rfl rfl) rfl rfl rfl ?_
                        | refine Jl.yd (Y.not rfl rfl) rfl rfl rfl ?_
                        | refine Jl.yd (Y.arithN rfl rfl rfl rfl (by omega)) rfl rfl rfl ?_
                        | refine Jl.yd (Y.arith64 rfl rfl rfl rfl) rfl rfl rfl ?_
                        | refine Jl.splitG rfl rfl (fun h => ?_) (fun h => ?_))
                      | (apply gateE; first
                        | refine Jl.nil (Ej.go ?_ (fun _ _ h => h))
                        | (refine Jl.nil (Ej.back (fun _ _ h => h) (by repeat (first | exact .refl | apply DropTo.tail)) ?_); repeat (first | exact trivial | refine ⟨rfl, ?_⟩)))
                      | (apply gateC; first
                        | refine Cj.block rfl ?_
                        | refine Cj.condF rfl rfl (Cj.skip rfl (Ej.go ?_ (fun _ _ h => h)))
                        | (refine Cj.condF rfl rfl (Cj.skip rfl (Ej.back (fun _ _ h => h) (by repeat (first | exact .refl | apply DropTo.tail)) ?_)); repeat (first | exact trivial | refine ⟨rfl, ?_⟩))
                        | refine Cj.condF rfl rfl ?_
                        | refine Cj.condT rfl rfl ?_
                        | refine Cj.exit rfl (Ej.go ?_ (fun _ _ h => h))
                        | refine Cj.cond rfl rfl (fun h => ?_) (fun h => ?_)
                        | refine Cj.skip rfl (Ej.go ?_ (fun _ _ h => h))
                        | (refine Cj.skip rfl (Ej.back (fun _ _ h => h) (by repeat (first | exact .refl | apply DropTo.tail)) ?_); repeat (first | exact trivial | refine ⟨rfl, ?_⟩))
                        | refine Cj.seq rfl ?_
                        | refine Cj.region rfl ?_))
                  refine Jl.nil (Ej.cutP (ι := Nat × Option Addr × Nat × List S40) _ _ _ _ (fun _ _ h => h) (i + 1, A14, c14, (([] ++ s.take k) ++ [x]) ++ s.drop k) ⟨⟨by omega, fin.trans hE, h14⟩, by dsimp only; omega⟩ ⟨rfl, rfl, rfl, rfl, rfl, rfl, trivial⟩ (by repeat (first | exact .nil | refine Pick.cons (by repeat (first | exact .z | apply OutAt.s)) ?_)) (fun p hp => by rw [List.mem_singleton.1 hp]; exact memT (memT (memT memH))))
                · skip
                  refine Jl.litS (us := [.int .i64 x.f0, .int .i64 x.f1.f0, .int .i64 x.f1.f1, .int .i64 x.f1.f2, .int .i64 x.f1.f3, .bool x.f1.f4, .int .i64 x.f2]) (zs := [.int .i64 0, .int .i64 0, .int .i64 0, .int .i64 0, .int .i64 0, .bool false, .int .i64 0]) rfl rfl rfl rfl rfl el46 zero40 rfl rfl (fill7 _ _ _ _ _ _ _ _ _ _ _ _ _ _) (fun g9 => ?_)
                  refine Jl.jw ?_
                  refine Jw.step (mkD [] [0]) 4 rfl (by decide +kernel) rfl rfl ?_
                  refine Jl.appF (enc := enc) flat40 (xs := []) (zs := s.take k) rfl rfl rfl rfl rfl rfl ap46 (by rw [List.length_take]; omega) (by repeat (first | exact memH | refine memT ?_)) (by repeat (first | exact .z | apply OutAt.s)) (by (try simp only [List.length_append, List.length_cons, List.length_nil, List.length_take, List.length_drop]); omega) (by (try simp only [List.length_append, List.length_cons, List.length_nil, List.length_take, List.length_drop]); omega) (fun A4 c4 h4 => ?_)
                  refine Jl.jw ?_
                  refine Jw.step (mkD [] [0]) 10 rfl (by decide +kernel) rfl rfl ?_
                  refine Jl.app (dk := k40) (xs := [] ++ s.take k) x (fun _ => False) rfl rfl rfl rfl rfl rfl ap46 (by repeat (first | exact .head _ | refine .tail _ ?_)) rfl (fun w => k40_mkM w 0 (fun _ => False) x) (encO x) (by repeat (first | exact .z | apply OutAt.s)) (by (try simp only [List.length_append, List.length_cons, List.length_nil, List.length_take, List.length_drop]); omega) (by (try simp only [List.length_append, List.length_cons, List.length_nil, List.length_take, List.length_drop]); omega) (fun A10 c10 h10 => ?_)
                  refine Jl.jw ?_
                  refine Jw.step (mkD [] [0]) 14 rfl (by decide +kernel) rfl rfl ?_
                  refine Jl.appF (enc := enc) flat40 (xs := ([] ++ s.take k) ++ [x]) (zs := s.drop k) rfl rfl rfl rfl rfl rfl ap46 (by rw [List.length_drop]; omega) (by repeat (first | exact memH | refine memT ?_)) (by repeat (first | exact .z | apply OutAt.s)) (by (try simp only [List.length_append, List.length_cons, List.length_nil, List.length_take, List.length_drop]); omega) (by (try simp only [List.length_append, List.length_cons, List.length_nil, List.length_take, List.length_drop]); omega) (fun A14 c14 h14 => ?_)
                  refine Jl.jw ?_
                  refine Jw.take 15 rfl (by decide +kernel) (by intro c a d v w h; cases d <;> exact h) (fun w => Y.asg rfl rfl) rfl rfl rfl ?_
                  refine Jw.done (by decide +kernel) (Ej.go ?_ (fun _ _ h => h))
                  repeat (first
                      | (apply gateO; first
                        | refine Jl.yd (Y.mv rfl rfl) rfl rfl rfl ?_
                        | refine Jl.yd (Y.asg rfl rfl) rfl rfl rfl ?_
                        | refine Jl.yd (Y.ext rfl rfl rfl) rfl rfl rfl ?_
                        | refine Jl.yd (Y.pickT rfl rfl rfl) rfl rfl rfl ?_
                        | refine Jl.yd (Y.pickF rfl rfl rfl) rfl rfl rfl ?_
                        | refine Jl.off rfl rfl rfl ?_
                        | refine Jl.yd (Y.cmpF rfl rfl rfl rfl (by omega)) rfl rfl rfl ?_
                        | refine Jl.yd (Y.cmpT rfl rfl rfl rfl (by omega)) rfl rfl rfl ?_
                        | refine Jl.yd (Y.neqB rfl rfl rfl Try.underlying4) rfl rfl rfl ?_
                        | refine Jl.yd (Y.cmp rfl rfl rfl rfl) rfl rfl rfl ?_
                        | refine Jl.yd (Y.not rfl rfl) rfl rfl rfl ?_
                        | refine Jl.yd (Y.arithN rfl rfl rfl rfl (by omega)) rfl rfl rfl ?_
                        | refine Jl.yd (Y.arith64 rfl rfl rfl rfl) rfl rfl rfl ?_
                        | refine Jl.splitG rfl rfl (fun h => ?_) (fun h => ?_))
                      | (apply gateE; first
                        | refine Jl.nil (Ej.go ?_ (fun _ _ h => h))
                        | (refine Jl.nil (Ej.back (fun _ _ h => h) (by repeat (first | exact .refl | apply DropTo.tail)) ?_); repeat (first | exact trivial | refine ⟨rfl, ?_⟩)))
                      | (apply gateC; first
                        | refine Cj.block rfl ?_
                        | refine Cj.condF rfl rfl (Cj.skip rfl (Ej.go ?_ (fun _ _ h => h)))
                        | (refine Cj.condF rfl rfl (Cj.skip rfl (Ej.back (fun _ _ h => h) (by repeat (first | exact .refl | apply DropTo.tail)) ?_)); repeat (first | exact trivial | refine ⟨rfl, ?_⟩))
                        | refine Cj.condF rfl rfl ?_
                        | refine Cj.condT rfl rfl ?_
                        | refine Cj.exit rfl (Ej.go ?_ (fun _ _ h => h))
                        | refine Cj.cond rfl rfl (fun h => ?_) (fun h => ?_)
                        | refine Cj.skip rfl (Ej.go ?_ (fun _ _ h => h))
                        | (refine Cj.skip rfl (Ej.back (fun _ _ h => h) (by repeat (first | exact .refl | apply DropTo.tail)) ?_); repeat (first | exact trivial | refine ⟨rfl, ?_⟩))
                        | refine Cj.seq rfl ?_
                        | refine Cj.region rfl ?_))
                  refine Jl.nil (Ej.cutP (ι := Nat × Option Addr × Nat × List S40) _ _ _ _ (fun _ _ h => h) (i + 1, A14, c14, (([] ++ s.take k) ++ [x]) ++ s.drop k) ⟨⟨by omega, fin.trans hE, h14⟩, by dsimp only; omega⟩ ⟨rfl, rfl, rfl, rfl, rfl, rfl, trivial⟩ (by repeat (first | exact .nil | refine Pick.cons (by repeat (first | exact .z | apply OutAt.s)) ?_)) (fun p hp => by rw [List.mem_singleton.1 hp]; exact memT (memT (memT memH))))
            · skip
              refine Jl.yd (Y.loadK z40 [.int .i64 x.f0, .int .i64 x.f1.f0, .int .i64 x.f1.f1, .int .i64 x.f1.f2, .int .i64 x.f1.f3, .bool x.f1.f4, .int .i64 x.f2] rfl rfl agg40 (by repeat (first | exact .head _ | refine .tail _ ?_)) ((i : Int)) (by omega) (by omega) (by rfl) (fun w cs h => (k40_open h).trans hus) (by rfl)) rfl rfl rfl ?_
              refine Jl.jw ?_
              refine Jw.br2 (mkD [] [0]) 0 9 rfl rfl (by decide +kernel) rfl rfl ?_ ?_
              · skip
                refine Jl.lit0 k40 rfl rfl rfl rfl el46 (fun g0 => ?_)
                refine Jl.jw ?_
                refine Jw.br2 (mkD [] [0]) 4 9 rfl rfl (by decide +kernel) rfl rfl ?_ ?_
                · skip
                  refine Jl.appF (enc := enc) flat40 (xs := []) (zs := s.take k) rfl rfl rfl rfl rfl rfl ap46 (by rw [List.length_take]; omega) (by repeat (first | exact memH | refine memT ?_)) (by repeat (first | exact .z | apply OutAt.s)) (by (try simp only [List.length_append, List.length_cons, List.length_nil, List.length_take, List.length_drop]); omega) (by (try simp only [List.length_append, List.length_cons, List.length_nil, List.length_take, List.length_drop]); omega) (fun A4 c4 h4 => ?_)
                  refine Jl.jw ?_
                  refine Jw.step (mkD [] [0]) 9 rfl (by decide +kernel) rfl rfl ?_
                  refine Jl.litS (us := [.int .i64 x.f0, .int .i64 x.f1.f0, .int .i64 x.f1.f1, .int .i64 x.f1.f2, .int .i64 x.f1.f3, .bool x.f1.f4, .int .i64 x.f2]) (zs := [.int .i64 0, .int .i64 0, .int .i64 0, .int .i64 0, .int .i64 0, .bool false, .int .i64 0]) rfl rfl rfl rfl rfl el46 zero40 rfl rfl (fill7 _ _ _ _ _ _ _ _ _ _ _ _ _ _) (fun g9 => ?_)
                  refine Jl.jw ?_
                  refine Jw.step (mkD [] [0]) 10 rfl (by decide +kernel) rfl rfl ?_
                  refine Jl.app (dk := k40) (xs := [] ++ s.take k) x (fun _ => False) rfl rfl rfl rfl rfl rfl ap46 (by repeat (first | exact .head _ | refine .tail _ ?_)) rfl (fun w => k40_mkM w 0 (fun _ => False) x) (encO x) (by repeat (first | exact .z | apply OutAt.s)) (by (try simp only [List.length_append, List.length_cons, List.length_nil, List.length_take, List.length_drop]); omega) (by (try simp only [List.length_append, List.length_cons, List.length_nil, List.length_take, List.length_drop]); omega) (fun A10 c10 h10 => ?_)
                  refine Jl.jw ?_
                  refine Jw.step (mkD [] [0]) 14 rfl (by decide +kernel) rfl rfl ?_
                  refine Jl.appF (enc := enc) flat40 (xs := ([] ++ s.take k) ++ [x]) (zs := s.drop k) rfl rfl rfl rfl rfl rfl ap46 (by rw [List.length_drop]; omega) (by repeat (first | exact memH | refine memT ?_)) (by repeat (first | exact .z | apply OutAt.s)) (by (try simp only [List.length_append, List.length_cons, List.length_nil, List.length_take, List.length_drop]); omega) (by (try simp only [List.length_append, List.length_cons, List.length_nil, List.length_take, List.length_drop]); omega) (fun A14 c14 h14 => ?_)
                  refine Jl.jw ?_
                  refine Jw.take 15 rfl (by decide +kernel) (by intro c a d v w h; cases d <;> exact h) (fun w => Y.asg rfl rfl) rfl rfl rfl ?_
                  refine Jw.done (by decide +kernel) (Ej.go ?_ (fun _ _ h => h))
                  repeat (first
                      | (apply gateO; first
                        | refine Jl.yd (Y.mv rfl rfl) rfl rfl rfl ?_
                        | refine Jl.yd (Y.asg rfl rfl) rfl rfl rfl ?_
                        | refine Jl.yd (Y.ext rfl rfl rfl) rfl rfl rfl ?_
                        | refine Jl.yd (Y.pickT rfl rfl rfl) rfl rfl rfl ?_
                        | refine Jl.yd (Y.pickF rfl rfl rfl) rfl rfl rfl ?_
                        | refine Jl.off rfl rfl rfl ?_
                        | refine Jl.yd (Y.cmpF rfl rfl rfl rfl (by omega)) rfl rfl rfl ?_
                        | refine Jl.yd (Y.cmpT rfl rfl rfl rfl (by omega)) rfl rfl rfl ?_
                        | refine Jl.yd (Y.neqB rfl rfl rfl Try.underlying4) rfl rfl rfl ?_
                        | refine Jl.yd (Y.cmp rfl rfl rfl rfl) rfl rfl rfl ?_
                        | refine Jl.yd (Y.not rfl rfl) rfl rfl rfl ?_
                        | refine Jl.yd (Y.arithN rfl rfl rfl rfl (by omega)) rfl rfl rfl ?_
                        | refine Jl.yd (Y.arith64 rfl rfl rfl rfl) rfl rfl rfl ?_
                        | refine Jl.splitG rfl rfl (fun h => ?_) (fun h => ?_))
                      | (apply gateE; first
                        | refine Jl.nil (Ej.go ?_ (fun _ _ h => h))
                        | (refine Jl.nil (Ej.back (fun _ _ h => h) (by repeat (first | exact .refl | apply DropTo.tail)) ?_); repeat (first | exact trivial | refine ⟨rfl, ?_⟩)))
                      | (apply gateC; first
                        | refine Cj.block rfl ?_
                        | refine Cj.condF rfl rfl (Cj.skip rfl (Ej.go ?_ (fun _ _ h => h)))
                        | (refine Cj.condF rfl rfl (Cj.skip rfl (Ej.back (fun _ _ h => h) (by repeat (first | exact .refl | apply DropTo.tail)) ?_)); repeat (first | exact trivial | refine ⟨rfl, ?_⟩))
                        | refine Cj.condF rfl rfl ?_
                        | refine Cj.condT rfl rfl ?_
                        | refine Cj.exit rfl (Ej.go ?_ (fun _ _ h => h))
                        | refine Cj.cond rfl rfl (fun h => ?_) (fun h => ?_)
                        | refine Cj.skip rfl (Ej.go ?_ (fun _ _ h => h))
                        | (refine Cj.skip rfl (Ej.back (fun _ _ h => h) (by repeat (first | exact .refl | apply DropTo.tail)) ?_); repeat (first | exact trivial | refine ⟨rfl, ?_⟩))
                        | refine Cj.seq rfl ?_
                        | refine Cj.region rfl ?_))
                  refine Jl.nil (Ej.cutP (ι := Nat × Option Addr × Nat × List S40) _ _ _ _ (fun _ _ h => h) (i + 1, A14, c14, (([] ++ s.take k) ++ [x]) ++ s.drop k) ⟨⟨by omega, fin.trans hE, h14⟩, by dsimp only; omega⟩ ⟨rfl, rfl, rfl, rfl, rfl, rfl, trivial⟩ (by repeat (first | exact .nil | refine Pick.cons (by repeat (first | exact .z | apply OutAt.s)) ?_)) (fun p hp => by rw [List.mem_singleton.1 hp]; exact memT (memT (memT memH))))
                · skip
                  refine Jl.litS (us := [.int .i64 x.f0, .int .i64 x.f1.f0, .int .i64 x.f1.f1, .int .i64 x.f1.f2, .int .i64 x.f1.f3, .bool x.f1.f4, .int .i64 x.f2]) (zs := [.int .i64 0, .int .i64 0, .int .i64 0, .int .i64 0, .int .i64 0, .bool false, .int .i64 0]) rfl rfl rfl rfl rfl el46 zero40 rfl rfl (fill7 _ _ _ _ _ _ _ _ _ _ _ _ _ _) (fun g9 => ?_)
                  refine Jl.jw ?_
                  refine Jw.step (mkD [] [0]) 4 rfl (by decide +kernel) rfl rfl ?_
                  refine Jl.appF (enc := enc) flat40 (xs := []) (zs := s.take k) rfl rfl rfl rfl rfl rfl ap46 (by rw [List.length_take]; omega) (by repeat (first | exact memH | refine memT ?_)) (by repeat (first | exact .z | apply OutAt.s)) (by (try simp only [List.length_append, List.length_cons, List.length_nil, List.length_take, List.length_drop]); omega) (by (try simp only [List.length_append, List.length_cons, List.length_nil, List.length_take, List.length_drop]); omega) (fun A4 c4 h4 => ?_)
                  refine Jl.jw ?_
                  refine Jw.step (mkD [] [0]) 10 rfl (by decide +kernel) rfl rfl ?_
                  refine Jl.app (dk := k40) (xs := [] ++ s.take k) x (fun _ => False) rfl rfl rfl rfl rfl rfl ap46 (by repeat (first | exact .head _ | refine .tail _ ?_)) rfl (fun w => k40_mkM w 0 (fun _ => False) x) (encO x) (by repeat (first | exact .z | apply OutAt.s)) (by (try simp only [List.length_append, List.length_cons, List.length_nil, List.length_take, List.length_drop]); omega) (by (try simp only [List.length_append, List.length_cons, List.length_nil, List.length_take, List.length_drop]); omega) (fun A10 c10 h10 => ?_)
                  refine Jl.jw ?_
                  refine Jw.step (mkD [] [0]) 14 rfl (by decide +kernel) rfl rfl ?_
                  refine Jl.appF (enc := enc) flat40 (xs := ([] ++ s.take k) ++ [x]) (zs := s.drop k) rfl rfl rfl rfl rfl rfl ap46 (by rw [List.length_drop]; omega) (by repeat (first | exact memH | refine memT ?_)) (by repeat (first | exact .z | apply OutAt.s)) (by (try simp only [List.length_append, List.length_cons, List.length_nil, List.length_take, List.length_drop]); omega) (by (try simp only [List.length_append, List.length_cons, List.length_nil, List.length_take, List.length_drop]); omega) (fun A14 c14 h14 => ?_)
                  refine Jl.jw ?_
                  refine Jw.take 15 rfl (by decide +kernel) (by intro c a d v w h; cases d <;> exact h) (fun w => Y.asg rfl rfl) rfl rfl rfl ?_
                  refine Jw.done (by decide +kernel) (Ej.go ?_ (fun _ _ h => h))
                  repeat (first
                      | (apply gateO; first
                        | refine Jl.yd (Y.mv rfl rfl) rfl rfl rfl ?_
                        | refine Jl.yd (Y.asg rfl rfl) rfl rfl rfl ?_
                        | refine Jl.yd (Y.ext rfl rfl rfl) rfl rfl rfl ?_
                        | refine Jl.yd (Y.pickT rfl rfl rfl) rfl rfl rfl ?_
                        | refine Jl.yd (Y.pickF rfl rfl rfl) rfl rfl rfl ?_
                        | refine Jl.off rfl rfl rfl ?_
                        | refine Jl.yd (Y.cmpF rfl rfl rfl rfl (by omega)) rfl rfl rfl ?_
                        | refine Jl.yd (Y.cmpT rfl rfl rfl rfl (by omega)) rfl rfl rfl ?_
                        | refine Jl.yd (Y.neqB rfl rfl rfl Try.underlying4) rfl rfl rfl ?_
                        | refine Jl.yd (Y.cmp rfl rfl rfl rfl) rfl rfl rfl ?_
                        | refine Jl.yd (Y.not rfl rfl) rfl rfl rfl ?_
                        | refine Jl.yd (Y.arithN rfl rfl rfl rfl (by omega)) rfl rfl rfl ?_
                        | refine Jl.yd (Y.arith64 rfl rfl rfl rfl) rfl rfl rfl ?_
                        | refine Jl.splitG rfl rfl (fun h => ?_) (fun h => ?_))
                      | (apply gateE; first
                        | refine Jl.nil (Ej.go ?_ (fun _ _ h => h))
                        | (refine Jl.nil (Ej.back (fun _ _ h => h) (by repeat (first | exact .refl | apply DropTo.tail)) ?_); repeat (first | exact trivial | refine ⟨rfl, ?_⟩)))
                      | (apply gateC; first
                        | refine Cj.block rfl ?_
                        | refine Cj.condF rfl rfl (Cj.skip rfl (Ej.go ?_ (fun _ _ h => h)))
                        | (refine Cj.condF rfl rfl (Cj.skip rfl (Ej.back (fun _ _ h => h) (by repeat (first | exact .refl | apply DropTo.tail)) ?_)); repeat (first | exact trivial | refine ⟨rfl, ?_⟩))
                        | refine Cj.condF rfl rfl ?_
                        | refine Cj.condT rfl rfl ?_
                        | refine Cj.exit rfl (Ej.go ?_ (fun _ _ h => h))
                        | refine Cj.cond rfl rfl (fun h => ?_) (fun h => ?_)
                        | refine Cj.skip rfl (Ej.go ?_ (fun _ _ h => h))
                        | (refine Cj.skip rfl (Ej.back (fun _ _ h => h) (by repeat (first | exact .refl | apply DropTo.tail)) ?_); repeat (first | exact trivial | refine ⟨rfl, ?_⟩))
                        | refine Cj.seq rfl ?_
                        | refine Cj.region rfl ?_))
                  refine Jl.nil (Ej.cutP (ι := Nat × Option Addr × Nat × List S40) _ _ _ _ (fun _ _ h => h) (i + 1, A14, c14, (([] ++ s.take k) ++ [x]) ++ s.drop k) ⟨⟨by omega, fin.trans hE, h14⟩, by dsimp only; omega⟩ ⟨rfl, rfl, rfl, rfl, rfl, rfl, trivial⟩ (by repeat (first | exact .nil | refine Pick.cons (by repeat (first | exact .z | apply OutAt.s)) ?_)) (fun p hp => by rw [List.mem_singleton.1 hp]; exact memT (memT (memT memH))))
              · skip
                refine Jl.litS (us := [.int .i64 x.f0, .int .i64 x.f1.f0, .int .i64 x.f1.f1, .int .i64 x.f1.f2, .int .i64 x.f1.f3, .bool x.f1.f4, .int .i64 x.f2]) (zs := [.int .i64 0, .int .i64 0, .int .i64 0, .int .i64 0, .int .i64 0, .bool false, .int .i64 0]) rfl rfl rfl rfl rfl el46 zero40 rfl rfl (fill7 _ _ _ _ _ _ _ _ _ _ _ _ _ _) (fun g9 => ?_)
                refine Jl.jw ?_
                refine Jw.step (mkD [] [0]) 0 rfl (by decide +kernel) rfl rfl ?_
                refine Jl.lit0 k40 rfl rfl rfl rfl el46 (fun g0 => ?_)
                refine Jl.jw ?_
                refine Jw.step (mkD [] [0]) 4 rfl (by decide +kernel) rfl rfl ?_
                refine Jl.appF (enc := enc) flat40 (xs := []) (zs := s.take k) rfl rfl rfl rfl rfl rfl ap46 (by rw [List.length_take]; omega) (by repeat (first | exact memH | refine memT ?_)) (by repeat (first | exact .z | apply OutAt.s)) (by (try simp only [List.length_append, List.length_cons, List.length_nil, List.length_take, List.length_drop]); omega) (by (try simp only [List.length_append, List.length_cons, List.length_nil, List.length_take, List.length_drop]); omega) (fun A4 c4 h4 => ?_)
                refine Jl.jw ?_
                refine Jw.step (mkD [] [0]) 10 rfl (by decide +kernel) rfl rfl ?_
                refine Jl.app (dk := k40) (xs := [] ++ s.take k) x (fun _ => False) rfl rfl rfl rfl rfl rfl ap46 (by repeat (first | exact .head _ | refine .tail _ ?_)) rfl (fun w => k40_mkM w 0 (fun _ => False) x) (encO x) (by repeat (first | exact .z | apply OutAt.s)) (by (try simp only [List.length_append, List.length_cons, List.length_nil, List.length_take, List.length_drop]); omega) (by (try simp only [List.length_append, List.length_cons, List.length_nil, List.length_take, List.length_drop]); omega) (fun A10 c10 h10 => ?_)
                refine Jl.jw ?_
                refine Jw.step (mkD [] [0]) 14 rfl (by decide +kernel) rfl rfl ?_
                refine Jl.appF (enc := enc) flat40 (xs := ([] ++ s.take k) ++ [x]) (zs := s.drop k) rfl rfl rfl rfl rfl rfl ap46 (by rw [List.length_drop]; omega) (by repeat (first | exact memH | refine memT ?_)) (by repeat (first | exact .z | apply OutAt.s)) (by (try simp only [List.length_append, List.length_cons, List.length_nil, List.length_take, List.length_drop]); omega) (by (try simp only [List.length_append, List.length_cons, List.length_nil, List.length_take, List.length_drop]); omega) (fun A14 c14 h14 => ?_)
                refine Jl.jw ?_
                refine Jw.take 15 rfl (by decide +kernel) (by intro c a d v w h; cases d <;> exact h) (fun w => Y.asg rfl rfl) rfl rfl rfl ?_
                refine Jw.done (by decide +kernel) (Ej.go ?_ (fun _ _ h => h))
                repeat (first
                    | (apply gateO; first
                      | refine Jl.yd (Y.mv rfl rfl) rfl rfl rfl ?_
                      | refine Jl.yd (Y.asg rfl rfl) rfl rfl rfl ?_
                      | refine Jl.yd (Y.ext rfl rfl rfl) rfl rfl rfl ?_
                      | refine Jl.yd (Y.pickT rfl rfl rfl) rfl rfl rfl ?_
                      | refine Jl.yd (Y.pickF rfl rfl rfl) rfl rfl rfl ?_
                      | refine Jl.off rfl rfl rfl ?_
                      | refine Jl.yd (Y.cmpF rfl rfl rfl rfl (by omega)) rfl rfl rfl ?_
                      | refine Jl.yd (Y.cmpT rfl rfl rfl rfl (by omega)) rfl rfl rfl ?_
                      | refine Jl.yd (Y.neqB rfl rfl rfl Try.underlying4) rfl rfl rfl ?_
                      | refine Jl.yd (Y.cmp rfl rfl rfl rfl) rfl rfl rfl ?_
                      | refine Jl.yd (Y.not rfl rfl) rfl rfl rfl ?_
                      | refine Jl.yd (Y.arithN rfl rfl rfl rfl (by omega)) rfl rfl rfl ?_
                      | refine Jl.yd (Y.arith64 rfl rfl rfl rfl) rfl rfl rfl ?_
                      | refine Jl.splitG rfl rfl (fun h => ?_) (fun h => ?_))
                    | (apply gateE; first
                      | refine Jl.nil (Ej.go ?_ (fun _ _ h => h))
                      | (refine Jl.nil (Ej.back (fun _ _ h => h) (by repeat (first | exact .refl | apply DropTo.tail)) ?_); repeat (first | exact trivial | refine ⟨rfl, ?_⟩)))
                    | (apply gateC; first
                      | refine Cj.block rfl ?_
                      | refine Cj.condF rfl rfl (Cj.skip rfl (Ej.go ?_ (fun _ _ h => h)))
                      | (refine Cj.condF rfl rfl (Cj.skip rfl (Ej.back (fun _ _ h => h) (by repeat (first | exact .refl | apply DropTo.tail)) ?_)); repeat (first | exact trivial | refine ⟨rfl, ?_⟩))
                      | refine Cj.condF rfl rfl ?_
                      | refine Cj.condT rfl rfl ?_
                      | refine Cj.exit rfl (Ej.go ?_ (fun _ _ h => h))
                      | refine Cj.cond rfl rfl (fun h => ?_) (fun h => ?_)
                      | refine Cj.skip rfl (Ej.go ?_ (fun _ _ h => h))
                      | (refine Cj.skip rfl (Ej.back (fun _ _ h => h) (by repeat (first | exact .refl | apply DropTo.tail)) ?_); repeat (first | exact trivial | refine ⟨rfl, ?_⟩))
                      | refine Cj.seq rfl ?_
                      | refine Cj.region rfl ?_))
                refine Jl.nil (Ej.cutP (ι := Nat × Option Addr × Nat × List S40) _ _ _ _ (fun _ _ h => h) (i + 1, A14, c14, (([] ++ s.take k) ++ [x]) ++ s.drop k) ⟨⟨by omega, fin.trans hE, h14⟩, by dsimp only; omega⟩ ⟨rfl, rfl, rfl, rfl, rfl, rfl, trivial⟩ (by repeat (first | exact .nil | refine Pick.cons (by repeat (first | exact .z | apply OutAt.s)) ?_)) (fun p hp => by rw [List.mem_singleton.1 hp]; exact memT (memT (memT memH))))
          · obtain ⟨y, hy⟩ : ∃ y, s[k - 1]? = some y := ⟨_, List.getElem?_eq_getElem (by omega)⟩
            have hym : okSx y = true := hgood y (List.mem_of_mem_take (near_mem (hs ▸ List.mem_of_getElem? hy)))
            have hyo : okA y.f1.f0 y.f1.f1 y.f1.f2 y.f1.f3 = true := (okS_iff.1 hym).2.1
            have hby : spec_l24Base.f y.f1.f0 y.f1.f1 y.f1.f2 y.f1.f3 y.f1.f4 = some (bAx y.f1) := sBase _ hyo
            have huy : enc (s.getD ((k : Int) - 1).toNat z40) = [.int .i64 y.f0, .int .i64 y.f1.f0, .int .i64 y.f1.f1, .int .i64 y.f1.f2, .int .i64 y.f1.f3, .bool y.f1.f4, .int .i64 y.f2] := by
              rw [show ((k : Int) - 1).toNat = k - 1 by omega, List.getD_eq_getElem?_getD, hy]; rfl
            obtain ⟨ad1, rfl⟩ : ∃ ad, A = some ad := hAn (by omega)
            have b1 := prod_b hok hym
            have b2 := prod_b hym hok
            have htk2 : (s.take k).reverse = y :: (s.take (k - 1)).reverse := by
              obtain ⟨j, rfl⟩ : ∃ j, k = j + 1 := ⟨k - 1, by omega⟩
              rw [List.take_add_one, show s[j]? = some y from hy]; simp
            have hdr2 : y :: s.drop k = s.drop (k - 1) := by
              obtain ⟨j, rfl⟩ : ∃ j, k = j + 1 := ⟨k - 1, by omega⟩
              rw [show j + 1 - 1 = j from rfl, List.drop_eq_getElem_cons (i := j) (by omega)]
              congr 1
              exact (List.getElem?_eq_some_iff.1 hy).2.symm
            by_cases hc : x.f2 * bAx y.f1 < y.f2 * bAx x.f1
            · have hgo2 : goI ltS x (s.take (k - 1)).reverse (s.drop (k - 1)) = insR ltS s x := by
                rw [← hgo, htk2, ← hdr2]
                conv => rhs; unfold goI
                rw [if_pos (by unfold ltS; simpa using hc)]
              repeat (first
    | (apply gateO; first
      | refine Jl.yd (Y.mv rfl rfl) rfl rfl rfl ?_
      | refine Jl.yd (Y.asg rfl rfl) rfl rfl rfl ?_
      | refine Jl.yd (Y.ext rfl rfl rfl) rfl rfl rfl ?_
      | refine Jl.yd (Y.pickT rfl rfl rfl) rfl rfl rfl ?_
      | refine Jl.yd (Y.pickF rfl rfl rfl) rfl rfl rfl ?_
      | refine Jl.off rfl rfl rfl ?_
      | refine Jl.yd (Y.cmpF rfl rfl rfl rfl (by omega)) rfl rfl rfl ?_
      | refine Jl.yd (Y.cmpT rfl rfl rfl rfl (by omega)) rfl rfl rfl ?_
      | refine Jl.yd (Y.neqB rfl rfl rfl Try.underlying4) rfl rfl rfl ?_
      | refine Jl.yd (Y.cmp rfl rfl rfl rfl) rfl rfl rfl ?_
      | refine Jl.yd (Y.not rfl rfl) rfl rfl rfl ?_
      | refine Jl.yd (Y.arithN rfl rfl rfl rfl (by omega)) rfl rfl rfl ?_
      | refine Jl.yd (Y.arith64 rfl rfl rfl rfl) rfl rfl rfl ?_
      | refine Jl.yd (Y.lenS Try.underlying46 rfl rfl rfl) rfl rfl rfl ?_
      | refine Jl.yd (Y.idx rfl rfl rfl el46 (by omega) (by omega)) rfl rfl rfl ?_
      | refine Jl.yd (Y.loadK1 z40 [.int .i64 y.f0, .int .i64 y.f1.f0, .int .i64 y.f1.f1, .int .i64 y.f1.f2, .int .i64 y.f1.f3, .bool y.f1.f4, .int .i64 y.f2] rfl rfl sc3 (by repeat (first | exact .head _ | refine .tail _ ?_)) (((k : Int) - 1)) 6 (by omega) (by omega) (by rfl) (fun w cs h => (k40_open h).trans huy) rfl) rfl rfl rfl ?_
      | refine Jl.yd (Y.loadKS z40 [.int .i64 y.f0, .int .i64 y.f1.f0, .int .i64 y.f1.f1, .int .i64 y.f1.f2, .int .i64 y.f1.f3, .bool y.f1.f4, .int .i64 y.f2] [.int .i64 y.f1.f0, .int .i64 y.f1.f1, .int .i64 y.f1.f2, .int .i64 y.f1.f3, .bool y.f1.f4] 1 rfl rfl agg25 (by repeat (first | exact .head _ | refine .tail _ ?_)) (((k : Int) - 1)) (by omega) (by omega) rfl (fun w cs h => (k40_open h).trans huy) rfl rfl) rfl rfl rfl ?_
      | refine Jl.yd (Y.loadK1 z40 [.int .i64 x.f0, .int .i64 x.f1.f0, .int .i64 x.f1.f1, .int .i64 x.f1.f2, .int .i64 x.f1.f3, .bool x.f1.f4, .int .i64 x.f2] rfl rfl sc3 (by repeat (first | exact .head _ | refine .tail _ ?_)) ((i : Int)) 6 (by omega) (by omega) (by rfl) (fun w cs h => (k40_open h).trans hus) rfl) rfl rfl rfl ?_
      | refine Jl.yd (Y.loadKS z40 [.int .i64 x.f0, .int .i64 x.f1.f0, .int .i64 x.f1.f1, .int .i64 x.f1.f2, .int .i64 x.f1.f3, .bool x.f1.f4, .int .i64 x.f2] [.int .i64 x.f1.f0, .int .i64 x.f1.f1, .int .i64 x.f1.f2, .int .i64 x.f1.f3, .bool x.f1.f4] 1 rfl rfl agg25 (by repeat (first | exact .head _ | refine .tail _ ?_)) ((i : Int)) (by omega) (by omega) rfl (fun w cs h => (k40_open h).trans hus) rfl rfl) rfl rfl rfl ?_
      | refine Jl.call1 (v := .int .i64 (bAx x.f1)) rfl rfl rfl rfl en54 rfl (fun w hW => by with_reducible first | exact spec_l24Base.calls x.f1.f0 x.f1.f1 x.f1.f2 x.f1.f3 x.f1.f4 (bAx x.f1) w hbx | exact Calls.mono (spec_l24Base.calls x.f1.f0 x.f1.f1 x.f1.f2 x.f1.f3 x.f1.f4 (bAx x.f1) w hbx) (fun _ _ hh => ⟨hh.1, hh.2.below⟩)) ?_
      | refine Jl.call1 (v := .int .i64 (bAx y.f1)) rfl rfl rfl rfl en54 rfl (fun w hW => by with_reducible first | exact spec_l24Base.calls y.f1.f0 y.f1.f1 y.f1.f2 y.f1.f3 y.f1.f4 (bAx y.f1) w hby | exact Calls.mono (spec_l24Base.calls y.f1.f0 y.f1.f1 y.f1.f2 y.f1.f3 y.f1.f4 (bAx y.f1) w hby) (fun _ _ hh => ⟨hh.1, hh.2.below⟩)) ?_
      | refine Jl.yd (Y.fld rfl rfl fld40_1) rfl rfl rfl ?_
      | refine Jl.yd (Y.fld rfl rfl fld40_2) rfl rfl rfl ?_
      | refine Jl.splitG rfl rfl (fun h => ?_) (fun h => ?_))
    | (apply gateE; first
      | refine Jl.nil (Ej.go ?_ (fun _ _ h => h))
      | (refine Jl.nil (Ej.back (fun _ _ h => h) (by repeat (first | exact .refl | apply DropTo.tail)) ?_); repeat (first | exact trivial | refine ⟨rfl, ?_⟩)))
    | (apply gateC; first
      | refine Cj.block rfl ?_
      | refine Cj.regionD rfl (mkD [0, 1, 2, 3, 4, 5, 6, 7, 8, 9, 10, 11, 12, 13, 14, 15, 16, 17, 18, 19, 20, 21, 22, 23, 24, 26, 28, 29, 30] []) [] [0, 1, 2, 3, 4, 5, 6, 7, 8, 9, 10, 11, 12, 13, 16, 17, 18, 19, 20, 21, 22, 23, 24, 25, 26, 14, 15, 27, 28, 29, 30] mixed (by decide +kernel) ?_
      | refine Cj.condF rfl rfl (Cj.skip rfl (Ej.go ?_ (fun _ _ h => h)))
      | (refine Cj.condF rfl rfl (Cj.skip rfl (Ej.back (fun _ _ h => h) (by repeat (first | exact .refl | apply DropTo.tail)) ?_)); repeat (first | exact trivial | refine ⟨rfl, ?_⟩))
      | refine Cj.condF rfl rfl ?_
      | refine Cj.condT rfl rfl ?_
      | refine Cj.exit rfl (Ej.go ?_ (fun _ _ h => h))
      | refine Cj.cond rfl rfl (fun h => ?_) (fun h => ?_)
      | refine Cj.skip rfl (Ej.go ?_ (fun _ _ h => h))
      | (refine Cj.skip rfl (Ej.back (fun _ _ h => h) (by repeat (first | exact .refl | apply DropTo.tail)) ?_); repeat (first | exact trivial | refine ⟨rfl, ?_⟩))
      | refine Cj.seq rfl ?_
      | refine Cj.region rfl ?_))
              refine Jl.nil (Ej.cutP (ι := Nat) _ _ _ _ (fun _ _ h => h) (k - 1) ⟨⟨by omega, hgo2⟩, by (try dsimp only); omega⟩ ⟨rfl, rfl, rfl, rfl, rfl, rfl, ?_, trivial⟩ (by repeat (first | exact .nil | refine Pick.cons (by repeat (first | exact .z | apply OutAt.s)) ?_)) (fun p hp => hp))
              show some (Value.int .i64 ((k : Int) - 1)) = some (.int .i64 ((k - 1 : Nat) : Int))
              rw [show ((k - 1 : Nat) : Int) = (k : Int) - 1 by omega]
            · have fin : (([] ++ s.take k) ++ [x]) ++ s.drop k = insR ltS s x := by
                rw [← hgo, htk2]
                unfold goI
                rw [if_neg (by unfold ltS; simpa using hc)]
                have := congrArg List.reverse htk2
                rw [List.reverse_reverse, List.reverse_cons, List.reverse_reverse] at this
                rw [this]; simp
              refine Cj.ws (ι := Unit) (fun _ => True) (fun _ => [.box g 25 [.int .i64 a.f0, .int .i64 a.f1, .int .i64 a.f2, .int .i64 a.f3, .bool a.f4]]) (fun _ => [(fun W => Kd.C k40 W (some ad1) (s.take k).length (s.take k)), (fun W => Kd.C k40 W (if c = ((k : Int)).toNat then (some ad1) else (some ad1).map (·.add (((k : Int)).toNat * 7))) (s.drop k).length (s.drop k)), (fun W => Kd.C k40 W (some ad1) s.length s), (fun W => Kd.C k40 W (some ad0) l.length l)]) (fun w' hW => ⟨(), trivial, ((hW.both (p := (fun W => Kd.C k40 W (some ad1) s.length s)) (q := (fun W => Kd.C k40 W (some ad1) s.length s)) (r := (fun W => Kd.C k40 W (if c = ((k : Int)).toNat then (some ad1) else (some ad1).map (·.add (((k : Int)).toNat * 7))) (s.drop k).length (s.drop k))) memH memH (fun W h _ => by rw [Int.toNat_natCast]; exact Kd.C_drop h hks hsc)).both (p := (fun W => Kd.C k40 W (some ad1) s.length s)) (q := (fun W => Kd.C k40 W (some ad1) s.length s)) (r := (fun W => Kd.C k40 W (some ad1) (s.take k).length (s.take k))) (memT memH) (memT memH) (fun W h _ => Kd.C_take h hks))⟩) (fun _ _ => ?_)
              repeat (first
    | (apply gateO; first
      | refine Jl.yd (Y.mv rfl rfl) rfl rfl rfl ?_
      | refine Jl.yd (Y.asg rfl rfl) rfl rfl rfl ?_
      | refine Jl.yd (Y.ext rfl rfl rfl) rfl rfl rfl ?_
      | refine Jl.yd (Y.pickT rfl rfl rfl) rfl rfl rfl ?_
      | refine Jl.yd (Y.pickF rfl rfl rfl) rfl rfl rfl ?_
      | refine Jl.off rfl rfl rfl ?_
      | refine Jl.yd (Y.cmpF rfl rfl rfl rfl (by omega)) rfl rfl rfl ?_
      | refine Jl.yd (Y.cmpT rfl rfl rfl rfl (by omega)) rfl rfl rfl ?_
      | refine Jl.yd (Y.neqB rfl rfl rfl Try.underlying4) rfl rfl rfl ?_
      | refine Jl.yd (Y.cmp rfl rfl rfl rfl) rfl rfl rfl ?_
      | refine Jl.yd (Y.not rfl rfl) rfl rfl rfl ?_
      | refine Jl.yd (Y.arithN rfl rfl rfl rfl (by omega)) rfl rfl rfl ?_
      | refine Jl.yd (Y.arith64 rfl rfl rfl rfl) rfl rfl rfl ?_
      | refine Jl.yd (Y.lenS Try.underlying46 rfl rfl rfl) rfl rfl rfl ?_
      | refine Jl.yd (Y.idx rfl rfl rfl el46 (by omega) (by omega)) rfl rfl rfl ?_
      | refine Jl.yd (Y.loadK1 z40 [.int .i64 y.f0, .int .i64 y.f1.f0, .int .i64 y.f1.f1, .int .i64 y.f1.f2, .int .i64 y.f1.f3, .bool y.f1.f4, .int .i64 y.f2] rfl rfl sc3 (by repeat (first | exact .head _ | refine .tail _ ?_)) (((k : Int) - 1)) 6 (by omega) (by omega) (by rfl) (fun w cs h => (k40_open h).trans huy) rfl) rfl rfl rfl ?_
      | refine Jl.yd (Y.loadKS z40 [.int .i64 y.f0, .int .i64 y.f1.f0, .int .i64 y.f1.f1, .int .i64 y.f1.f2, .int .i64 y.f1.f3, .bool y.f1.f4, .int .i64 y.f2] [.int .i64 y.f1.f0, .int .i64 y.f1.f1, .int .i64 y.f1.f2, .int .i64 y.f1.f3, .bool y.f1.f4] 1 rfl rfl agg25 (by repeat (first | exact .head _ | refine .tail _ ?_)) (((k : Int) - 1)) (by omega) (by omega) rfl (fun w cs h => (k40_open h).trans huy) rfl rfl) rfl rfl rfl ?_
      | refine Jl.yd (Y.loadK1 z40 [.int .i64 x.f0, .int .i64 x.f1.f0, .int .i64 x.f1.f1, .int .i64 x.f1.f2, .int .i64 x.f1.f3, .bool x.f1.f4, .int .i64 x.f2] rfl rfl sc3 (by repeat (first | exact .head _ | refine .tail _ ?_)) ((i : Int)) 6 (by omega) (by omega) (by rfl) (fun w cs h => (k40_open h).trans hus) rfl) rfl rfl rfl ?_
      | refine Jl.yd (Y.loadKS z40 [.int .i64 x.f0, .int .i64 x.f1.f0, .int .i64 x.f1.f1, .int .i64 x.f1.f2, .int .i64 x.f1.f3, .bool x.f1.f4, .int .i64 x.f2] [.int .i64 x.f1.f0, .int .i64 x.f1.f1, .int .i64 x.f1.f2, .int .i64 x.f1.f3, .bool x.f1.f4] 1 rfl rfl agg25 (by repeat (first | exact .head _ | refine .tail _ ?_)) ((i : Int)) (by omega) (by omega) rfl (fun w cs h => (k40_open h).trans hus) rfl rfl) rfl rfl rfl ?_
      | refine Jl.call1 (v := .int .i64 (bAx x.f1)) rfl rfl rfl rfl en54 rfl (fun w hW => by with_reducible first | exact spec_l24Base.calls x.f1.f0 x.f1.f1 x.f1.f2 x.f1.f3 x.f1.f4 (bAx x.f1) w hbx | exact Calls.mono (spec_l24Base.calls x.f1.f0 x.f1.f1 x.f1.f2 x.f1.f3 x.f1.f4 (bAx x.f1) w hbx) (fun _ _ hh => ⟨hh.1, hh.2.below⟩)) ?_
      | refine Jl.call1 (v := .int .i64 (bAx y.f1)) rfl rfl rfl rfl en54 rfl (fun w hW => by with_reducible first | exact spec_l24Base.calls y.f1.f0 y.f1.f1 y.f1.f2 y.f1.f3 y.f1.f4 (bAx y.f1) w hby | exact Calls.mono (spec_l24Base.calls y.f1.f0 y.f1.f1 y.f1.f2 y.f1.f3 y.f1.f4 (bAx y.f1) w hby) (fun _ _ hh => ⟨hh.1, hh.2.below⟩)) ?_
      | refine Jl.yd (Y.fld rfl rfl fld40_1) rfl rfl rfl ?_
      | refine Jl.yd (Y.fld rfl rfl fld40_2) rfl rfl rfl ?_
      | refine Jl.splitG rfl rfl (fun h => ?_) (fun h => ?_))
    | (apply gateE; first
      | refine Jl.nil (Ej.go ?_ (fun _ _ h => h))
      | (refine Jl.nil (Ej.back (fun _ _ h => h) (by repeat (first | exact .refl | apply DropTo.tail)) ?_); repeat (first | exact trivial | refine ⟨rfl, ?_⟩)))
    | (apply gateC; first
      | refine Cj.block rfl ?_
      | refine Cj.regionD rfl (mkD [0, 1, 2, 3, 4, 5, 6, 7, 8, 9, 10, 11, 12, 13, 14, 15, 16, 17, 18, 19, 20, 21, 22, 23, 24, 26, 28, 29, 30] []) [] [0, 1, 2, 3, 4, 5, 6, 7, 8, 9, 10, 11, 12, 13, 16, 17, 18, 19, 20, 21, 22, 23, 24, 25, 26, 14, 15, 27, 28, 29, 30] mixed (by decide +kernel) ?_
      | refine Cj.condF rfl rfl (Cj.skip rfl (Ej.go ?_ (fun _ _ h => h)))
      | (refine Cj.condF rfl rfl (Cj.skip rfl (Ej.back (fun _ _ h => h) (by repeat (first | exact .refl | apply DropTo.tail)) ?_)); repeat (first | exact trivial | refine ⟨rfl, ?_⟩))
      | refine Cj.condF rfl rfl ?_
      | refine Cj.condT rfl rfl ?_
      | refine Cj.exit rfl (Ej.go ?_ (fun _ _ h => h))
      | refine Cj.cond rfl rfl (fun h => ?_) (fun h => ?_)
      | refine Cj.skip rfl (Ej.go ?_ (fun _ _ h => h))
      | (refine Cj.skip rfl (Ej.back (fun _ _ h => h) (by repeat (first | exact .refl | apply DropTo.tail)) ?_); repeat (first | exact trivial | refine ⟨rfl, ?_⟩))
      | refine Cj.seq rfl ?_
      | refine Cj.region rfl ?_))
              refine Cj.regionJ rfl [0, 4, 8, 9, 10, 14] mixed ?_
              refine Jw.take 1 rfl (by decide +kernel) (by intro c a d v w h; cases d <;> exact h) (fun w => Y.mv rfl rfl) rfl rfl rfl ?_
              refine Jw.take 2 rfl (by decide +kernel) (by intro c a d v w h; cases d <;> exact h) (fun w => Y.mv rfl rfl) rfl rfl rfl ?_
              refine Jw.take 5 rfl (by decide +kernel) (by intro c a d v w h; cases d <;> exact h) (fun w => Y.mv rfl rfl) rfl rfl rfl ?_
              refine Jw.take 6 rfl (by decide +kernel) (by intro c a d v w h; cases d <;> exact h) (fun w => Y.mv rfl rfl) rfl rfl rfl ?_
              refine Jw.take 11 rfl (by decide +kernel) (by intro c a d v w h; cases d <;> exact h) (fun w => Y.mv rfl rfl) rfl rfl rfl ?_
              refine Jw.take 12 rfl (by decide +kernel) (by intro c a d v w h; cases d <;> exact h) (fun w => Y.mv rfl rfl) rfl rfl rfl ?_
              refine Jw.take 3 rfl (by decide +kernel) (by intro c a d v w h; cases d <;> exact h) (fun w => Y.sliTo rfl rfl rfl el46 (by omega) (by omega)) rfl rfl rfl ?_
              refine Jw.take 7 rfl (by decide +kernel) (by intro c a d v w h; cases d <;> exact h) (fun w => Y.idx rfl rfl rfl el46 (by omega) (by omega)) rfl rfl rfl ?_
              refine Jw.take 13 rfl (by decide +kernel) (by intro c a d v w h; cases d <;> exact h) (fun w => Y.sliFrom rfl rfl rfl el46 (by omega) (by omega)) rfl rfl rfl ?_
              refine Jw.br2 (mkD [] [0]) 0 8 rfl rfl (by decide +kernel) rfl rfl ?_ ?_
              · skip
                refine Jl.lit0 k40 rfl rfl rfl rfl el46 (fun g0 => ?_)
                refine Jl.jw ?_
                refine Jw.br2 (mkD [] [0]) 4 8 rfl rfl (by decide +kernel) rfl rfl ?_ ?_
                · skip
                  refine Jl.appF (enc := enc) flat40 (xs := []) (zs := s.take k) rfl rfl rfl rfl rfl rfl ap46 (by rw [List.length_take]; omega) (by repeat (first | exact memH | refine memT ?_)) (by repeat (first | exact .z | apply OutAt.s)) (by (try simp only [List.length_append, List.length_cons, List.length_nil, List.length_take, List.length_drop]); omega) (by (try simp only [List.length_append, List.length_cons, List.length_nil, List.length_take, List.length_drop]); omega) (fun A4 c4 h4 => ?_)
                  refine Jl.jw ?_
                  refine Jw.step (mkD [] [0]) 8 rfl (by decide +kernel) rfl rfl ?_
                  refine Jl.yd (Y.loadK z40 [.int .i64 x.f0, .int .i64 x.f1.f0, .int .i64 x.f1.f1, .int .i64 x.f1.f2, .int .i64 x.f1.f3, .bool x.f1.f4, .int .i64 x.f2] rfl rfl agg40 (by repeat (first | exact .head _ | refine .tail _ ?_)) ((i : Int)) (by omega) (by omega) (by rfl) (fun w cs h => (k40_open h).trans hus) (by rfl)) rfl rfl rfl ?_
                  refine Jl.jw ?_
                  refine Jw.step (mkD [] [0]) 9 rfl (by decide +kernel) rfl rfl ?_
                  refine Jl.litS (us := [.int .i64 x.f0, .int .i64 x.f1.f0, .int .i64 x.f1.f1, .int .i64 x.f1.f2, .int .i64 x.f1.f3, .bool x.f1.f4, .int .i64 x.f2]) (zs := [.int .i64 0, .int .i64 0, .int .i64 0, .int .i64 0, .int .i64 0, .bool false, .int .i64 0]) rfl rfl rfl rfl rfl el46 zero40 rfl rfl (fill7 _ _ _ _ _ _ _ _ _ _ _ _ _ _) (fun g9 => ?_)
                  refine Jl.jw ?_
                  refine Jw.step (mkD [] [0]) 10 rfl (by decide +kernel) rfl rfl ?_
                  refine Jl.app (dk := k40) (xs := [] ++ s.take k) x (fun _ => False) rfl rfl rfl rfl rfl rfl ap46 (by repeat (first | exact .head _ | refine .tail _ ?_)) rfl (fun w => k40_mkM w 0 (fun _ => False) x) (encO x) (by repeat (first | exact .z | apply OutAt.s)) (by (try simp only [List.length_append, List.length_cons, List.length_nil, List.length_take, List.length_drop]); omega) (by (try simp only [List.length_append, List.length_cons, List.length_nil, List.length_take, List.length_drop]); omega) (fun A10 c10 h10 => ?_)
                  refine Jl.jw ?_
                  refine Jw.step (mkD [] [0]) 14 rfl (by decide +kernel) rfl rfl ?_
                  refine Jl.appF (enc := enc) flat40 (xs := ([] ++ s.take k) ++ [x]) (zs := s.drop k) rfl rfl rfl rfl rfl rfl ap46 (by rw [List.length_drop]; omega) (by repeat (first | exact memH | refine memT ?_)) (by repeat (first | exact .z | apply OutAt.s)) (by (try simp only [List.length_append, List.length_cons, List.length_nil, List.length_take, List.length_drop]); omega) (by (try simp only [List.length_append, List.length_cons, List.length_nil, List.length_take, List.length_drop]); omega) (fun A14 c14 h14 => ?_)
                  refine Jl.jw ?_
                  refine Jw.take 15 rfl (by decide +kernel) (by intro c a d v w h; cases d <;> exact h) (fun w => Y.asg rfl rfl) rfl rfl rfl ?_
                  refine Jw.done (by decide +kernel) (Ej.go ?_ (fun _ _ h => h))
                  repeat (first
                      | (apply gateO; first
                        | refine Jl.yd (Y.mv rfl rfl) rfl rfl rfl ?_
                        | refine Jl.yd (Y.asg rfl rfl) rfl rfl rfl ?_
                        | refine Jl.yd (Y.ext rfl rfl rfl) rfl rfl rfl ?_
                        | refine Jl.yd (Y.pickT rfl rfl rfl) rfl rfl rfl ?_
                        | refine Jl.yd (Y.pickF rfl rfl rfl) rfl rfl rfl ?_
                        | refine Jl.off rfl rfl rfl ?_
                        | refine Jl.yd (Y.cmpF rfl rfl rfl rfl (by omega)) rfl rfl rfl ?_
                        | refine Jl.yd (Y.cmpT rfl rfl rfl rfl (by omega)) rfl rfl rfl ?_
                        | refine Jl.yd (Y.neqB rfl rfl rfl Try.underlying4) rfl rfl rfl ?_
                        | refine Jl.yd (Y.cmp rfl rfl rfl rfl) rfl rfl rfl ?_
                        | refine Jl.yd (Y.not rfl rfl) rfl rfl rfl ?_
                        | refine Jl.yd (Y.arithN rfl rfl rfl rfl (by omega)) rfl rfl rfl ?_
                        | refine Jl.yd (Y.arith64 rfl rfl rfl rfl) rfl rfl rfl ?_
                        | refine Jl.splitG rfl rfl (fun h => ?_) (fun h => ?_))
                      | (apply gateE; first
                        | refine Jl.nil (Ej.go ?_ (fun _ _ h => h))
                        | (refine Jl.nil (Ej.back (fun _ _ h => h) (by repeat (first | exact .refl | apply DropTo.tail)) ?_); repeat (first | exact trivial | refine ⟨rfl, ?_⟩)))
                      | (apply gateC; first
                        | refine Cj.block rfl ?_
                        | refine Cj.condF rfl rfl (Cj.skip rfl (Ej.go ?_ (fun _ _ h => h)))
                        | (refine Cj.condF rfl rfl (Cj.skip rfl (Ej.back (fun _ _ h => h) (by repeat (first | exact .refl | apply DropTo.tail)) ?_)); repeat (first | exact trivial | refine ⟨rfl, ?_⟩))
                        | refine Cj.condF rfl rfl ?_
                        | refine Cj.condT rfl rfl ?_
                        | refine Cj.exit rfl (Ej.go ?_ (fun _ _ h => h))
                        | refine Cj.cond rfl rfl (fun h => ?_) (fun h => ?_)
                        | refine Cj.skip rfl (Ej.go ?_ (fun _ _ h => h))
                        | (refine Cj.skip rfl (Ej.back (fun _ _ h => h) (by repeat (first | exact .refl | apply DropTo.tail)) ?_); repeat (first | exact trivial | refine ⟨rfl, ?_⟩))
                        | refine Cj.seq rfl ?_
                        | refine Cj.region rfl ?_))
                  refine Jl.nil (Ej.cutP (ι := Nat × Option Addr × Nat × List S40) _ _ _ _ (fun _ _ h => h) (i + 1, A14, c14, (([] ++ s.take k) ++ [x]) ++ s.drop k) ⟨⟨by omega, fin.trans hE, h14⟩, by dsimp only; omega⟩ ⟨rfl, rfl, rfl, rfl, rfl, rfl, trivial⟩ (by repeat (first | exact .nil | refine Pick.cons (by repeat (first | exact .z | apply OutAt.s)) ?_)) (fun p hp => by rw [List.mem_singleton.1 hp]; exact memT (memT (memT memH))))
                · skip
                  refine Jl.yd (Y.loadK z40 [.int .i64 x.f0, .int .i64 x.f1.f0, .int .i64 x.f1.f1, .int .i64 x.f1.f2, .int .i64 x.f1.f3, .bool x.f1.f4, .int .i64 x.f2] rfl rfl agg40 (by repeat (first | exact .head _ | refine .tail _ ?_)) ((i : Int)) (by omega) (by omega) (by rfl) (fun w cs h => (k40_open h).trans hus) (by rfl)) rfl rfl rfl ?_
                  refine Jl.jw ?_
                  refine Jw.br2 (mkD [] [0]) 4 9 rfl rfl (by decide +kernel) rfl rfl ?_ ?_
                  · skip
                    refine Jl.appF (enc := enc) flat40 (xs := []) (zs := s.take k) rfl rfl rfl rfl rfl rfl ap46 (by rw [List.length_take]; omega) (by repeat (first | exact memH | refine memT ?_)) (by repeat (first | exact .z | apply OutAt.s)) (by (try simp only [List.length_append, List.length_cons, List.length_nil, List.length_take, List.length_drop]); omega) (by (try simp only [List.length_append, List.length_cons, List.length_nil, List.length_take, List.length_drop]); omega) (fun A4 c4 h4 => ?_)
                    refine Jl.jw ?_
                    refine Jw.step (mkD [] [0]) 9 rfl (by decide +kernel) rfl rfl ?_
                    refine Jl.litS (us := [.int .i64 x.f0, .int .i64 x.f1.f0, .int .i64 x.f1.f1, .int .i64 x.f1.f2, .int .i64 x.f1.f3, .bool x.f1.f4, .int .i64 x.f2]) (zs := [.int .i64 0, .int .i64 0, .int .i64 0, .int .i64 0, .int .i64 0, .bool false, .int .i64 0]) rfl rfl rfl rfl rfl el46 zero40 rfl rfl (fill7 _ _ _ _ _ _ _ _ _ _ _ _ _ _) (fun g9 => ?_)
                    refine Jl.jw ?_
                    refine Jw.step (mkD [] [0]) 10 rfl (by decide +kernel) rfl rfl ?_
                    refine Jl.app (dk := k40) (xs := [] ++ s.take k) x (fun _ => False) rfl rfl rfl rfl rfl rfl ap46 (by repeat (first | exact .head _ | refine .tail _ ?_)) rfl (fun w => k40_mkM w 0 (fun _ => False) x) (encO x) (by repeat (first | exact .z | apply OutAt.s)) (by (try simp only [List.length_append, List.length_cons, List.length_nil, List.length_take, List.length_drop]); omega) (by (try simp only [List.length_append, List.length_cons, List.length_nil, List.length_take, List.length_drop]); omega) (fun A10 c10 h10 => ?_)
                    refine Jl.jw ?_
                    refine Jw.step (mkD [] [0]) 14 rfl (by decide +kernel) rfl rfl ?_
                    refine Jl.appF (enc := enc) flat40 (xs := ([] ++ s.take k) ++ [x]) (zs := s.drop k) rfl rfl rfl rfl rfl rfl ap46 (by rw [List.length_drop]; omega) (by repeat (first | exact memH | refine memT ?_)) (by repeat (first | exact .z | apply OutAt.s)) (by (try simp only [List.length_append, List.length_cons, List.length_nil, List.length_take, List.length_drop]); omega) (by (try simp only [List.length_append, List.length_cons, List.length_nil, List.length_take, List.length_drop]); omega) (fun A14 c14 h14 => ?_)
                    refine Jl.jw ?_
                    refine Jw.take 15 rfl (by decide +kernel) (by intro c a d v w h; cases d <;> exact h) (fun w => Y.asg rfl rfl) rfl rfl rfl ?_
                    refine Jw.done (by decide +kernel) (Ej.go ?_ (fun _ _ h => h))
                    repeat (first
                        | (apply gateO; first
                          | refine Jl.yd (Y.mv rfl rfl) rfl rfl rfl ?_
                          | refine Jl.yd (Y.asg rfl rfl) rfl rfl rfl ?_
                          | refine Jl.yd (Y.ext rfl rfl rfl) rfl rfl rfl ?_
                          | refine Jl.yd (Y.pickT rfl rfl rfl) rfl rfl rfl ?_
                          | refine Jl.yd (Y.pickF rfl rfl rfl) rfl rfl rfl ?_
                          | refine Jl.off rfl rfl rfl ?_
                          | refine Jl.yd (Y.cmpF rfl rfl rfl rfl (by omega)) rfl rfl rfl ?_
                          | refine Jl.yd (Y.cmpT rfl rfl rfl rfl (by omega)) rfl rfl rfl ?_
                          | refine Jl.yd (Y.neqB rfl rfl rfl Try.underlying4) rfl rfl rfl ?_
                          | refine Jl.yd (Y.cmp rfl rfl rfl rfl) rfl rfl rfl ?_
                          | refine Jl.yd (Y.not rfl rfl) rfl rfl rfl ?_
                          | refine Jl.yd (Y.arithN rfl rfl rfl rfl (by omega)) rfl rfl rfl ?_
                          | refine Jl.yd (Y.arith64 rfl rfl rfl rfl) rfl rfl rfl ?_
                          | refine Jl.splitG rfl rfl (fun h => ?_) (fun h => ?_))
                        | (apply gateE; first
                          | refine Jl.nil (Ej.go ?_ (fun _ _ h => h))
                          | (refine Jl.nil (Ej.back (fun _ _ h => h) (by repeat (first | exact .refl | apply DropTo.tail)) ?_); repeat (first | exact trivial | refine ⟨rfl, ?_⟩)))
                        | (apply gateC; first
                          | refine Cj.block rfl ?_
                          | refine Cj.condF rfl rfl (Cj.skip rfl (Ej.go ?_ (fun _ _ h => h)))
                          | (refine Cj.condF rfl rfl (Cj.skip rfl (Ej.back (fun _ _ h => h) (by repeat (first | exact .refl | apply DropTo.tail)) ?_)); repeat (first | exact trivial | refine ⟨rfl, ?_⟩))
                          | refine Cj.condF rfl rfl ?_
                          | refine Cj.condT rfl rfl ?_
                          | refine Cj.exit rfl (Ej.go ?_ (fun _ _ h => h))
                          | refine Cj.cond rfl rfl (fun h => ?_) (fun h => ?_)
                          | refine Cj.skip rfl (Ej.go ?_ (fun _ _ h => h))
                          | (refine Cj.skip rfl (Ej.back (fun _ _ h => h) (by repeat (first | exact .refl | apply DropTo.tail)) ?_); repeat (first | exact trivial | refine ⟨rfl, ?_⟩))
                          | refine Cj.seq rfl ?_
                          | refine Cj.region rfl ?_))
                    refine Jl.nil (Ej.cutP (ι := Nat × Option Addr × Nat × List S40) _ _ _ _ (fun _ _ h => h) (i + 1, A14, c14, (([] ++ s.take k) ++ [x]) ++ s.drop k) ⟨⟨by omega, fin.trans hE, h14⟩, by dsimp only; omega⟩ ⟨rfl, rfl, rfl, rfl, rfl, rfl, trivial⟩ (by repeat (first | exact .nil | refine Pick.cons (by repeat (first | exact .z | apply OutAt.s)) ?_)) (fun p hp => by rw [List.mem_singleton.1 hp]; exact memT (memT (memT memH))))
                  · skip
                    refine Jl.litS (us := [.int .i64 x.f0, .int .i64 x.f1.f0, .int .i64 x.f1.f1, .int .i64 x.f1.f2, .int .i64 x.f1.f3, .bool x.f1.f4, .int .i64 x.f2]) (zs := [.int .i64 0, .int .i64 0, .int .i64 0, .int .i64 0, .int .i64 0, .bool false, .int .i64 0]) rfl rfl rfl rfl rfl el46 zero40 rfl rfl (fill7 _ _ _ _ _ _ _ _ _ _ _ _ _ _) (fun g9 => ?_)
                    refine Jl.jw ?_
                    refine Jw.step (mkD [] [0]) 4 rfl (by decide +kernel) rfl rfl ?_
                    refine Jl.appF (enc := enc) flat40 (xs := []) (zs := s.take k) rfl rfl rfl rfl rfl rfl ap46 (by rw [List.length_take]; omega) (by repeat (first | exact memH | refine memT ?_)) (by repeat (first | exact .z | apply OutAt.s)) (by (try simp only [List.length_append, List.length_cons, List.length_nil, List.length_take, List.length_drop]); omega) (by (try simp only [List.length_append, List.length_cons, List.length_nil, List.length_take, List.length_drop]); omega) (fun A4 c4 h4 => ?_)
                    refine Jl.jw ?_
                    refine Jw.step (mkD [] [0]) 10 rfl (by decide +kernel) rfl rfl ?_
                    refine Jl.app (dk := k40) (xs := [] ++ s.take k) x (fun _ => False) rfl rfl rfl rfl rfl rfl ap46 (by repeat (first | exact .head _ | refine .tail _ ?_)) rfl (fun w => k40_mkM w 0 (fun _ => False) x) (encO x) (by repeat (first | exact .z | apply OutAt.s)) (by (try simp only [List.length_append, List.length_cons, List.length_nil, List.length_take, List.length_drop]); omega) (by (try simp only [List.length_append, List.length_cons, List.length_nil, List.length_take, List.length_drop]); omega) (fun A10 c10 h10 => ?_)
                    refine Jl.jw ?_
                    refine Jw.step (mkD [] [0]) 14 rfl (by decide +kernel) rfl rfl ?_
                    refine Jl.appF (enc := enc) flat40 (xs := ([] ++ s.take k) ++ [x]) (zs := s.drop k) rfl rfl rfl rfl rfl rfl ap46 (by rw [List.length_drop]; omega) (by repeat (first | exact memH | refine memT ?_)) (by repeat (first | exact .z | apply OutAt.s)) (by (try simp only [List.length_append, List.length_cons, List.length_nil, List.length_take, List.length_drop]); omega) (by (try simp only [List.length_append, List.length_cons, List.length_nil, List.length_take, List.length_drop]); omega) (fun A14 c14 h14 => ?_)
                    refine Jl.jw ?_
                    refine Jw.take 15 rfl (by decide +kernel) (by intro c a d v w h; cases d <;> exact h) (fun w => Y.asg rfl rfl) rfl rfl rfl ?_
                    refine Jw.done (by decide +kernel) (Ej.go ?_ (fun _ _ h => h))
                    repeat (first
                        | (apply gateO; first
                          | refine Jl.yd (Y.mv rfl rfl) rfl rfl rfl ?_
                          | refine Jl.yd (Y.asg rfl rfl) rfl rfl rfl ?_
                          | refine Jl.yd (Y.ext rfl rfl rfl) rfl rfl rfl ?_
                          | refine Jl.yd (Y.pickT rfl rfl rfl) rfl rfl rfl ?_
                          | refine Jl.yd (Y.pickF rfl rfl rfl) rfl rfl rfl ?_
                          | refine Jl.off rfl rfl rfl ?_
                          | refine Jl.yd (Y.cmpF rfl rfl rfl rfl (by omega)) rfl rfl rfl ?_
                          | refine Jl.yd (Y.cmpT rfl rfl rfl rfl (by omega)) rfl rfl rfl ?_
                          | refine Jl.yd (Y.neqB rfl rfl rfl Try.underlying4) rfl rfl rfl ?_
                          | refine Jl.yd (Y.cmp rfl rfl rfl rfl) rfl rfl rfl ?_
                          | refine Jl.yd (Y.not rfl rfl) rfl rfl rfl ?_
                          | refine Jl.yd (Y.arithN rfl rfl rfl rfl (by omega)) rfl rfl rfl ?_
                          | refine Jl.yd (Y.arith64 rfl rfl rfl rfl) rfl rfl rfl ?_
                          | refine Jl.splitG rfl rfl (fun h => ?_) (fun h => ?_))
                        | (apply gateE; first
                          | refine Jl.nil (Ej.go ?_ (fun _ _ h => h))
                          | (refine Jl.nil (Ej.back (fun _ _ h => h) (by repeat (first | exact .refl | apply DropTo.tail)) ?_); repeat (first | exact trivial | refine ⟨rfl, ?_⟩)))
                        | (apply gateC; first
                          | refine Cj.block rfl ?_
                          | refine Cj.condF rfl rfl (Cj.skip rfl (Ej.go ?_ (fun _ _ h => h)))
                          | (refine Cj.condF rfl rfl (Cj.skip rfl (Ej.back (fun _ _ h => h) (by repeat (first | exact .refl | apply DropTo.tail)) ?_)); repeat (first | exact trivial | refine ⟨rfl, ?_⟩))
                          | refine Cj.condF rfl rfl ?_
                          | refine Cj.condT rfl rfl ?_
                          | refine Cj.exit rfl (Ej.go ?_ (fun _ _ h => h))
                          | refine Cj.cond rfl rfl (fun h => ?_) (fun h => ?_)
                          | refine Cj.skip rfl (Ej.go ?_ (fun _ _ h => h))
                          | (refine Cj.skip rfl (Ej.back (fun _ _ h => h) (by repeat (first | exact .refl | apply DropTo.tail)) ?_); repeat (first | exact trivial | refine ⟨rfl, ?_⟩))
                          | refine Cj.seq rfl ?_
                          | refine Cj.region rfl ?_))
                    refine Jl.nil (Ej.cutP (ι := Nat × Option Addr × Nat × List S40) _ _ _ _ (fun _ _ h => h) (i + 1, A14, c14, (([] ++ s.take k) ++ [x]) ++ s.drop k) ⟨⟨by omega, fin.trans hE, h14⟩, by dsimp only; omega⟩ ⟨rfl, rfl, rfl, rfl, rfl, rfl, trivial⟩ (by repeat (first | exact .nil | refine Pick.cons (by repeat (first | exact .z | apply OutAt.s)) ?_)) (fun p hp => by rw [List.mem_singleton.1 hp]; exact memT (memT (memT memH))))
              · skip
                refine Jl.yd (Y.loadK z40 [.int .i64 x.f0, .int .i64 x.f1.f0, .int .i64 x.f1.f1, .int .i64 x.f1.f2, .int .i64 x.f1.f3, .bool x.f1.f4, .int .i64 x.f2] rfl rfl agg40 (by repeat (first | exact .head _ | refine .tail _ ?_)) ((i : Int)) (by omega) (by omega) (by rfl) (fun w cs h => (k40_open h).trans hus) (by rfl)) rfl rfl rfl ?_
                refine Jl.jw ?_
                refine Jw.br2 (mkD [] [0]) 0 9 rfl rfl (by decide +kernel) rfl rfl ?_ ?_
                · skip
                  refine Jl.lit0 k40 rfl rfl rfl rfl el46 (fun g0 => ?_)
                  refine Jl.jw ?_
                  refine Jw.br2 (mkD [] [0]) 4 9 rfl rfl (by decide +kernel) rfl rfl ?_ ?_
                  · skip
                    refine Jl.appF (enc := enc) flat40 (xs := []) (zs := s.take k) rfl rfl rfl rfl rfl rfl ap46 (by rw [List.length_take]; omega) (by repeat (first | exact memH | refine memT ?_)) (by repeat (first | exact .z | apply OutAt.s)) (by (try simp only [List.length_append, List.length_cons, List.length_nil, List.length_take, List.length_drop]); omega) (by (try simp only [List.length_append, List.length_cons, List.length_nil, List.length_take, List.length_drop]); omega) (fun A4 c4 h4 => ?_)
                    refine Jl.jw ?_
                    refine Jw.step (mkD [] [0]) 9 rfl (by decide +kernel) rfl rfl ?_
                    refine Jl.litS (us := [.int .i64 x.f0, .int .i64 x.f1.f0, .int .i64 x.f1.f1, .int .i64 x.f1.f2, .int .i64 x.f1.f3, .bool x.f1.f4, .int .i64 x.f2]) (zs := [.int .i64 0, .int .i64 0, .int .i64 0, .int .i64 0, .int .i64 0, .bool false, .int .i64 0]) rfl rfl rfl rfl rfl el46 zero40 rfl rfl (fill7 _ _ _ _ _ _ _ _ _ _ _ _ _ _) (fun g9 => ?_)
                    refine Jl.jw ?_
                    refine Jw.step (mkD [] [0]) 10 rfl (by decide +kernel) rfl rfl ?_
                    refine Jl.app (dk := k40) (xs := [] ++ s.take k) x (fun _ => False) rfl rfl rfl rfl rfl rfl ap46 (by repeat (first | exact .head _ | refine .tail _ ?_)) rfl (fun w => k40_mkM w 0 (fun _ => False) x) (encO x) (by repeat (first | exact .z | apply OutAt.s)) (by (try simp only [List.length_append, List.length_cons, List.length_nil, List.length_take, List.length_drop]); omega) (by (try simp only [List.length_append, List.length_cons, List.length_nil, List.length_take, List.length_drop]); omega) (fun A10 c10 h10 => ?_)
                    refine Jl.jw ?_
                    refine Jw.step (mkD [] [0]) 14 rfl (by decide +kernel) rfl rfl ?_
                    refine Jl.appF (enc := enc) flat40 (xs := ([] ++ s.take k) ++ [x]) (zs := s.drop k) rfl rfl rfl rfl rfl rfl ap46 (by rw [List.length_drop]; omega) (by repeat (first | exact memH | refine memT ?_)) (by repeat (first | exact .z | apply OutAt.s)) (by (try simp only [List.length_append, List.length_cons, List.length_nil, List.length_take, List.length_drop]); omega) (by (try simp only [List.length_append, List.length_cons, List.length_nil, List.length_take, List.length_drop]); omega) (fun A14 c14 h14 => ?_)
                    refine Jl.jw ?_
                    refine Jw.take 15 rfl (by decide +kernel) (by intro c a d v w h; cases d <;> exact h) (fun w => Y.asg rfl rfl) rfl rfl rfl ?_
                    refine Jw.done (by decide +kernel) (Ej.go ?_ (fun _ _ h => h))
                    repeat (first
                        | (apply gateO; first
                          | refine Jl.yd (Y.mv rfl rfl) rfl rfl rfl ?_
                          | refine Jl.yd (Y.asg rfl rfl) rfl rfl rfl ?_
                          | refine Jl.yd (Y.ext rfl rfl rfl) rfl rfl rfl ?_
                          | refine Jl.yd (Y.pickT rfl rfl rfl) rfl rfl rfl ?_
                          | refine Jl.yd (Y.pickF rfl rfl rfl) rfl rfl rfl ?_
                          | refine Jl.off rfl rfl rfl ?_
                          | refine Jl.yd (Y.cmpF rfl rfl rfl rfl (by omega)) rfl rfl rfl ?_
                          | refine Jl.yd (Y.cmpT rfl rfl rfl rfl (by omega)) rfl rfl rfl ?_
                          | refine Jl.yd (Y.neqB rfl rfl rfl Try.underlying4) rfl rfl rfl ?_
                          | refine Jl.yd (Y.cmp rfl rfl rfl rfl) rfl rfl rfl ?_
                          | refine Jl.yd (Y.not rfl rfl) rfl rfl rfl ?_
                          | refine Jl.yd (Y.arithN rfl rfl rfl rfl (by omega)) rfl rfl rfl ?_
                          | refine Jl.yd (Y.arith64 rfl rfl rfl rfl) rfl rfl rfl ?_
                          | refine Jl.splitG rfl rfl (fun h => ?_) (fun h => ?_))
                        | (apply gateE; first
                          | refine Jl.nil (Ej.go ?_ (fun _ _ h => h))
                          | (refine Jl.nil (Ej.back (fun _ _ h => h) (by repeat (first | exact .refl | apply DropTo.tail)) ?_); repeat (first | exact trivial | refine ⟨rfl, ?_⟩)))
                        | (apply gateC; first
                          | refine Cj.block rfl ?_
                          | refine Cj.condF rfl rfl (Cj.skip rfl (Ej.go ?_ (fun _ _ h => h)))
                          | (refine Cj.condF rfl rfl (Cj.skip rfl (Ej.back (fun _ _ h => h) (by repeat (first | exact .refl | apply DropTo.tail)) ?_)); repeat (first | exact trivial | refine ⟨rfl, ?_⟩))
                          | refine Cj.condF rfl rfl ?_
                          | refine Cj.condT rfl rfl ?_
                          | refine Cj.exit rfl (Ej.go ?_ (fun _ _ h => h))
                          | refine Cj.cond rfl rfl (fun h => ?_) (fun h => ?_)
                          | refine Cj.skip rfl (Ej.go ?_ (fun _ _ h => h))
                          | (refine Cj.skip rfl (Ej.back (fun _ _ h => h) (by repeat (first | exact .refl | apply DropTo.tail)) ?_); repeat (first | exact trivial | refine ⟨rfl, ?_⟩))
                          | refine Cj.seq rfl ?_
                          | refine Cj.region rfl ?_))
                    refine Jl.nil (Ej.cutP (ι := Nat × Option Addr × Nat × List S40) _ _ _ _ (fun _ _ h => h) (i + 1, A14, c14, (([] ++ s.take k) ++ [x]) ++ s.drop k) ⟨⟨by omega, fin.trans hE, h14⟩, by dsimp only; omega⟩ ⟨rfl, rfl, rfl, rfl, rfl, rfl, trivial⟩ (by repeat (first | exact .nil | refine Pick.cons (by repeat (first | exact .z | apply OutAt.s)) ?_)) (fun p hp => by rw [List.mem_singleton.1 hp]; exact memT (memT (memT memH))))
                  · skip
                    refine Jl.litS (us := [.int .i64 x.f0, .int .i64 x.f1.f0, .int .i64 x.f1.f1, .int .i64 x.f1.f2, .int .i64 x.f1.f3, .bool x.f1.f4, .int .i64 x.f2]) (zs := [.int .i64 0, .int .i64 0, .int .i64 0, .int .i64 0, .int .i64 0, .bool false, .int .i64 0]) rfl rfl rfl rfl rfl el46 zero40 rfl rfl (fill7 _ _ _ _ _ _ _ _ _ _ _ _ _ _) (fun g9 => ?_)
                    refine Jl.jw ?_
                    refine Jw.step (mkD [] [0]) 4 rfl (by decide +kernel) rfl rfl ?_
                    refine Jl.appF (enc := enc) flat40 (xs := []) (zs := s.take k) rfl rfl rfl rfl rfl rfl ap46 (by rw [List.length_take]; omega) (by repeat (first | exact memH | refine memT ?_)) (by repeat (first | exact .z | apply OutAt.s)) (by (try simp only [List.length_append, List.length_cons, List.length_nil, List.length_take, List.length_drop]); omega) (by (try simp only [List.length_append, List.length_cons, List.length_nil, List.length_take, List.length_drop]); omega) (fun A4 c4 h4 => ?_)
                    refine Jl.jw ?_
                    refine Jw.step (mkD [] [0]) 10 rfl (by decide +kernel) rfl rfl ?_
                    refine Jl.app (dk := k40) (xs := [] ++ s.take k) x (fun _ => False) rfl rfl rfl rfl rfl rfl ap46 (by repeat (first | exact .head _ | refine .tail _ ?_)) rfl (fun w => k40_mkM w 0 (fun _ => False) x) (encO x) (by repeat (first | exact .z | apply OutAt.s)) (by (try simp only [List.length_append, List.length_cons, List.length_nil, List.length_take, List.length_drop]); omega) (by (try simp only [List.length_append, List.length_cons, List.length_nil, List.length_take, List.length_drop]); omega) (fun A10 c10 h10 => ?_)
                    refine Jl.jw ?_
                    refine Jw.step (mkD [] [0]) 14 rfl (by decide +kernel) rfl rfl ?_
                    refine Jl.appF (enc := enc) flat40 (xs := ([] ++ s.take k) ++ [x]) (zs := s.drop k) rfl rfl rfl rfl rfl rfl ap46 (by rw [List.length_drop]; omega) (by repeat (first | exact memH | refine memT ?_)) (by repeat (first | exact .z | apply OutAt.s)) (by (try simp only [List.length_append, List.length_cons, List.length_nil, List.length_take, List.length_drop]); omega) (by (try simp only [List.length_append, List.length_cons, List.length_nil, List.length_take, List.length_drop]); omega) (fun A14 c14 h14 => ?_)
                    refine Jl.jw ?_
                    refine Jw.take 15 rfl (by decide +kernel) (by intro c a d v w h; cases d <;> exact h) (fun w => Y.asg rfl rfl) rfl rfl rfl ?_
                    refine Jw.done (by decide +kernel) (Ej.go ?_ (fun _ _ h => h))
                    repeat (first
                        | (apply gateO; first
                          | refine Jl.yd (Y.mv rfl rfl) rfl rfl rfl ?_
                          | refine Jl.yd (Y.asg rfl rfl) rfl rfl rfl ?_
                          | refine Jl.yd (Y.ext rfl rfl rfl) rfl rfl rfl ?_
                          | refine Jl.yd (Y.pickT rfl rfl rfl) rfl rfl rfl ?_
                          | refine Jl.yd (Y.pickF rfl rfl rfl) rfl rfl rfl ?_
                          | refine Jl.off rfl rfl rfl ?_
                          | refine Jl.yd (Y.cmpF rfl rfl rfl rfl (by omega)) rfl rfl rfl ?_
                          | refine Jl.yd (Y.cmpT rfl rfl rfl rfl (by omega)) rfl rfl rfl ?_
                          | refine Jl.yd (Y.neqB rfl rfl rfl Try.underlying4) rfl rfl rfl ?_
                          | refine Jl.yd (Y.cmp rfl rfl rfl rfl) rfl rfl rfl ?_
                          | refine Jl.yd (Y.not rfl rfl) rfl rfl rfl ?_
                          | refine Jl.yd (Y.arithN rfl rfl rfl rfl (by omega)) rfl rfl rfl ?_
                          | refine Jl.yd (Y.arith64 rfl rfl rfl rfl) rfl rfl rfl ?_
                          | refine Jl.splitG rfl rfl (fun h => ?_) (fun h => ?_))
                        | (apply gateE; first
                          | refine Jl.nil (Ej.go ?_ (fun _ _ h => h))
                          | (refine Jl.nil (Ej.back (fun _ _ h => h) (by repeat (first | exact .refl | apply DropTo.tail)) ?_); repeat (first | exact trivial | refine ⟨rfl, ?_⟩)))
                        | (apply gateC; first
                          | refine Cj.block rfl ?_
                          | refine Cj.condF rfl rfl (Cj.skip rfl (Ej.go ?_ (fun _ _ h => h)))
                          | (refine Cj.condF rfl rfl (Cj.skip rfl (Ej.back (fun _ _ h => h) (by repeat (first | exact .refl | apply DropTo.tail)) ?_)); repeat (first | exact trivial | refine ⟨rfl, ?_⟩))
                          | refine Cj.condF rfl rfl ?_
                          | refine Cj.condT rfl rfl ?_
                          | refine Cj.exit rfl (Ej.go ?_ (fun _ _ h => h))
                          | refine Cj.cond rfl rfl (fun h => ?_) (fun h => ?_)
                          | refine Cj.skip rfl (Ej.go ?_ (fun _ _ h => h))
                          | (refine Cj.skip rfl (Ej.back (fun _ _ h => h) (by repeat (first | exact .refl | apply DropTo.tail)) ?_); repeat (first | exact trivial | refine ⟨rfl, ?_⟩))
                          | refine Cj.seq rfl ?_
                          | refine Cj.region rfl ?_))
                    refine Jl.nil (Ej.cutP (ι := Nat × Option Addr × Nat × List S40) _ _ _ _ (fun _ _ h => h) (i + 1, A14, c14, (([] ++ s.take k) ++ [x]) ++ s.drop k) ⟨⟨by omega, fin.trans hE, h14⟩, by dsimp only; omega⟩ ⟨rfl, rfl, rfl, rfl, rfl, rfl, trivial⟩ (by repeat (first | exact .nil | refine Pick.cons (by repeat (first | exact .z | apply OutAt.s)) ?_)) (fun p hp => by rw [List.mem_singleton.1 hp]; exact memT (memT (memT memH))))
                · skip
                  refine Jl.litS (us := [.int .i64 x.f0, .int .i64 x.f1.f0, .int .i64 x.f1.f1, .int .i64 x.f1.f2, .int .i64 x.f1.f3, .bool x.f1.f4, .int .i64 x.f2]) (zs := [.int .i64 0, .int .i64 0, .int .i64 0, .int .i64 0, .int .i64 0, .bool false, .int .i64 0]) rfl rfl rfl rfl rfl el46 zero40 rfl rfl (fill7 _ _ _ _ _ _ _ _ _ _ _ _ _ _) (fun g9 => ?_)
                  refine Jl.jw ?_
                  refine Jw.step (mkD [] [0]) 0 rfl (by decide +kernel) rfl rfl ?_
                  refine Jl.lit0 k40 rfl rfl rfl rfl el46 (fun g0 => ?_)
                  refine Jl.jw ?_
                  refine Jw.step (mkD [] [0]) 4 rfl (by decide +kernel) rfl rfl ?_
                  refine Jl.appF (enc := enc) flat40 (xs := []) (zs := s.take k) rfl rfl rfl rfl rfl rfl ap46 (by rw [List.length_take]; omega) (by repeat (first | exact memH | refine memT ?_)) (by repeat (first | exact .z | apply OutAt.s)) (by (try simp only [List.length_append, List.length_cons, List.length_nil, List.length_take, List.length_drop]); omega) (by (try simp only [List.length_append, List.length_cons, List.length_nil, List.length_take, List.length_drop]); omega) (fun A4 c4 h4 => ?_)
                  refine Jl.jw ?_
                  refine Jw.step (mkD [] [0]) 10 rfl (by decide +kernel) rfl rfl ?_
                  refine Jl.app (dk := k40) (xs := [] ++ s.take k) x (fun _ => False) rfl rfl rfl rfl rfl rfl ap46 (by repeat (first | exact .head _ | refine .tail _ ?_)) rfl (fun w => k40_mkM w 0 (fun _ => False) x) (encO x) (by repeat (first | exact .z | apply OutAt.s)) (by (try simp only [List.length_append, List.length_cons, List.length_nil, List.length_take, List.length_drop]); omega) (by (try simp only [List.length_append, List.length_cons, List.length_nil, List.length_take, List.length_drop]); omega) (fun A10 c10 h10 => ?_)
                  refine Jl.jw ?_
                  refine Jw.step (mkD [] [0]) 14 rfl (by decide +kernel) rfl rfl ?_
                  refine Jl.appF (enc := enc) flat40 (xs := ([] ++ s.take k) ++ [x]) (zs := s.drop k) rfl rfl rfl rfl rfl rfl ap46 (by rw [List.length_drop]; omega) (by repeat (first | exact memH | refine memT ?_)) (by repeat (first | exact .z | apply OutAt.s)) (by (try simp only [List.length_append, List.length_cons, List.length_nil, List.length_take, List.length_drop]); omega) (by (try simp only [List.length_append, List.length_cons, List.length_nil, List.length_take, List.length_drop]); omega) (fun A14 c14 h14 => ?_)
                  refine Jl.jw ?_
                  refine Jw.take 15 rfl (by decide +kernel) (by intro c a d v w h; cases d <;> exact h) (fun w => Y.asg rfl rfl) rfl rfl rfl ?_
                  refine Jw.done (by decide +kernel) (Ej.go ?_ (fun _ _ h => h))
                  repeat (first
                      | (apply gateO; first
                        | refine Jl.yd (Y.mv rfl rfl) rfl rfl rfl ?_
                        | refine Jl.yd (Y.asg rfl rfl) rfl rfl rfl ?_
                        | refine Jl.yd (Y.ext rfl rfl rfl) rfl rfl rfl ?_
                        | refine Jl.yd (Y.pickT rfl rfl rfl) rfl rfl rfl ?_
                        | refine Jl.yd (Y.pickF rfl rfl rfl) rfl rfl rfl ?_
                        | refine Jl.off rfl rfl rfl ?_
                        | refine Jl.yd (Y.cmpF rfl rfl rfl rfl (by omega)) rfl rfl rfl ?_
                        | refine Jl.yd (Y.cmpT rfl rfl rfl rfl (by omega)) rfl rfl rfl ?_
                        | refine Jl.yd (Y.neqB rfl rfl rfl Try.underlying4) rfl rfl rfl ?_
                        | refine Jl.yd (Y.cmp rfl rfl rfl rfl) rfl rfl rfl ?_
                        | refine Jl.yd (Y.not rfl rfl) rfl rfl rfl ?_
                        | refine Jl.yd (Y.arithN rfl rfl rfl rfl (by omega)) rfl rfl rfl ?_
                        | refine Jl.yd (Y.arith64 rfl rfl rfl rfl) rfl rfl rfl ?_
                        | refine Jl.splitG rfl rfl (fun h => ?_) (fun h => ?_))
                      | (apply gateE; first
                        | refine Jl.nil (Ej.go ?_ (fun _ _ h => h))
                        | (refine Jl.nil (Ej.back (fun _ _ h => h) (by repeat (first | exact .refl | apply DropTo.tail)) ?_); repeat (first | exact trivial | refine ⟨rfl, ?_⟩)))
                      | (apply gateC; first
                        | refine Cj.block rfl ?_
                        | refine Cj.condF rfl rfl (Cj.skip rfl (Ej.go ?_ (fun _ _ h => h)))
                        | (refine Cj.condF rfl rfl (Cj.skip rfl (Ej.back (fun _ _ h => h) (by repeat (first | exact .refl | apply DropTo.tail)) ?_)); repeat (first | exact trivial | refine ⟨rfl, ?_⟩))
                        | refine Cj.condF rfl rfl ?_
                        | refine Cj.condT rfl rfl ?_
                        | refine Cj.exit rfl (Ej.go ?_ (fun _ _ h => h))
                        | refine Cj.cond rfl rfl (fun h => ?_) (fun h => ?_)
                        | refine Cj.skip rfl (Ej.go ?_ (fun _ _ h => h))
                        | (refine Cj.skip rfl (Ej.back (fun _ _ h => h) (by repeat (first | exact .refl | apply DropTo.tail)) ?_); repeat (first | exact trivial | refine ⟨rfl, ?_⟩))
                        | refine Cj.seq rfl ?_
                        | refine Cj.region rfl ?_))
                  refine Jl.nil (Ej.cutP (ι := Nat × Option Addr × Nat × List S40) _ _ _ _ (fun _ _ h => h) (i + 1, A14, c14, (([] ++ s.take k) ++ [x]) ++ s.drop k) ⟨⟨by omega, fin.trans hE, h14⟩, by dsimp only; omega⟩ ⟨rfl, rfl, rfl, rfl, rfl, rfl, trivial⟩ (by repeat (first | exact .nil | refine Pick.cons (by repeat (first | exact .z | apply OutAt.s)) ?_)) (fun p hp => by rw [List.mem_singleton.1 hp]; exact memT (memT (memT memH))))
      · obtain rfl : i = l.length := by omega
        rw [List.take_length] at hs
        refine Cj.ws (ι := Unit) (fun _ => s.length ≠ 0 → ∃ ad, A = some ad) (fun _ => [.box g 25 [.int .i64 a.f0, .int .i64 a.f1, .int .i64 a.f2, .int .i64 a.f3, .bool a.f4]]) (fun _ => [(fun W => Kd.C k40 W A s.length s), (fun W => Kd.C k40 W A0 l.length l)]) (fun w' hW => ⟨(), (fun h0 => by
            obtain ⟨ad, e, _⟩ := (hW.rowC memH).2.2 (by omega)
            exact ⟨ad, e⟩), (hW.freeze (n := 0) rfl (p := (fun W => Kd.C k40 W A s.length s)) (fun W A' hA' => (Kd.R_reads' hA'.1).2.2))⟩) (fun _ hAn => ?_)
        by_cases hz : s.length = 0
        · have hE : estF l a = (0, false) := by unfold estF; rw [hg, ha, if_pos (show (true && true) = true from rfl), ← hs, if_pos hz]
          repeat (first
    | (apply gateO; first
      | refine Jl.yd (Y.mv rfl rfl) rfl rfl rfl ?_
      | refine Jl.yd (Y.asg rfl rfl) rfl rfl rfl ?_
      | refine Jl.yd (Y.ext rfl rfl rfl) rfl rfl rfl ?_
      | refine Jl.yd (Y.pickT rfl rfl rfl) rfl rfl rfl ?_
      | refine Jl.yd (Y.pickF rfl rfl rfl) rfl rfl rfl ?_
      | refine Jl.off rfl rfl rfl ?_
      | refine Jl.yd (Y.cmpF rfl rfl rfl rfl (by omega)) rfl rfl rfl ?_
      | refine Jl.yd (Y.cmpT rfl rfl rfl rfl (by omega)) rfl rfl rfl ?_
      | refine Jl.yd (Y.neqB rfl rfl rfl Try.underlying4) rfl rfl rfl ?_
      | refine Jl.yd (Y.cmp rfl rfl rfl rfl) rfl rfl rfl ?_
      | refine Jl.yd (Y.not rfl rfl) rfl rfl rfl ?_
      | refine Jl.yd (Y.arithN rfl rfl rfl rfl (by omega)) rfl rfl rfl ?_
      | refine Jl.yd (Y.arith64 rfl rfl rfl rfl) rfl rfl rfl ?_
      | refine Jl.yd (Y.lenS Try.underlying46 rfl rfl rfl) rfl rfl rfl ?_
      | refine Jl.splitG rfl rfl (fun h => ?_) (fun h => ?_))
    | (apply gateE; first
      | refine Jl.nil (Ej.go ?_ (fun _ _ h => h))
      | (refine Jl.nil (Ej.back (fun _ _ h => h) (by repeat (first | exact .refl | apply DropTo.tail)) ?_); repeat (first | exact trivial | refine ⟨rfl, ?_⟩)))
    | (apply gateC; first
      | refine Cj.block rfl ?_
      | refine Cj.ret rfl (Ej.out2 (P := Try.prog) (fn := Try.f43) (R := Rr) (fun _ _ h => h) rfl rfl rfl (fun w' hW => ⟨by rw [hE], hW.below⟩))
      | refine Cj.condF rfl rfl (Cj.skip rfl (Ej.go ?_ (fun _ _ h => h)))
      | (refine Cj.condF rfl rfl (Cj.skip rfl (Ej.back (fun _ _ h => h) (by repeat (first | exact .refl | apply DropTo.tail)) ?_)); repeat (first | exact trivial | refine ⟨rfl, ?_⟩))
      | refine Cj.condF rfl rfl ?_
      | refine Cj.condT rfl rfl ?_
      | refine Cj.exit rfl (Ej.go ?_ (fun _ _ h => h))
      | refine Cj.cond rfl rfl (fun h => ?_) (fun h => ?_)
      | refine Cj.skip rfl (Ej.go ?_ (fun _ _ h => h))
      | (refine Cj.skip rfl (Ej.back (fun _ _ h => h) (by repeat (first | exact .refl | apply DropTo.tail)) ?_); repeat (first | exact trivial | refine ⟨rfl, ?_⟩))
      | refine Cj.seq rfl ?_
      | refine Cj.region rfl ?_))
        · obtain ⟨ad1, rfl⟩ := hAn hz
          obtain ⟨m, hm⟩ : ∃ m, medS l a = m := ⟨_, rfl⟩
          have hmm : m ∈ l := near_mem (hm ▸ med_mem (by rw [← hs]; exact hz))
          have hE : estF l a = (Int.tdiv (bAx a * m.f2) (bAx m.f1), true) := by unfold estF; rw [hg, ha, if_pos (show (true && true) = true from rfl), if_neg (by rw [← hs]; exact hz), hm]
          obtain ⟨⟨b1, b2⟩, b3, b4, b5⟩ := ans_b ha (hgood m hmm)
          have hq2 : IntKind.i64.wrap (Int.tdiv (bAx a * m.f2) (bAx m.f1)) = Int.tdiv (bAx a * m.f2) (bAx m.f1) := wrapI b4 (by omega)
          have hmid : IntKind.i64.wrap (Int.tdiv ((s.length : Int) - 1) 2) = (((s.length - 1) / 2 : Nat) : Int) := by
            rw [Int.tdiv_eq_ediv_of_nonneg (by omega), wrapI (by omega) (by omega)]; omega
          have hmo : okA m.f1.f0 m.f1.f1 m.f1.f2 m.f1.f3 = true := (okS_iff.1 (hgood m hmm)).2.1
          have hba : spec_l24Base.f a.f0 a.f1 a.f2 a.f3 a.f4 = some (bAx a) := sBase _ ha
          have hbm : spec_l24Base.f m.f1.f0 m.f1.f1 m.f1.f2 m.f1.f3 m.f1.f4 = some (bAx m.f1) := sBase _ hmo
          have hus : enc (s.getD ((((s.length - 1) / 2 : Nat) : Int)).toNat z40) = [.int .i64 m.f0, .int .i64 m.f1.f0, .int .i64 m.f1.f1, .int .i64 m.f1.f2, .int .i64 m.f1.f3, .bool m.f1.f4, .int .i64 m.f2] := by
            rw [Int.toNat_natCast, hs, show (nearS l a).getD (((nearS l a).length - 1) / 2) z40 = m from hm]; rfl
          repeat (first
    | (apply gateO; first
      | refine Jl.yd (Y.mv rfl rfl) rfl rfl rfl ?_
      | refine Jl.yd (Y.asg rfl rfl) rfl rfl rfl ?_
      | refine Jl.yd (Y.ext rfl rfl rfl) rfl rfl rfl ?_
      | refine Jl.yd (Y.pickT rfl rfl rfl) rfl rfl rfl ?_
      | refine Jl.yd (Y.pickF rfl rfl rfl) rfl rfl rfl ?_
      | refine Jl.off rfl rfl rfl ?_
      | refine Jl.yd (Y.cmpF rfl rfl rfl rfl (by omega)) rfl rfl rfl ?_
      | refine Jl.yd (Y.cmpT rfl rfl rfl rfl (by omega)) rfl rfl rfl ?_
      | refine Jl.yd (Y.neqB rfl rfl rfl Try.underlying4) rfl rfl rfl ?_
      | refine Jl.yd (Y.cmp rfl rfl rfl rfl) rfl rfl rfl ?_
      | refine Jl.yd (Y.not rfl rfl) rfl rfl rfl ?_
      | refine Jl.yd (Y.arithN rfl rfl rfl rfl (by omega)) rfl rfl rfl ?_
      | refine Jl.yd (Y.arith64 rfl rfl rfl rfl) rfl rfl rfl ?_
      | refine Jl.yd (Y.loadA rfl rfl agg25 (by repeat (first | exact .head _ | refine .tail _ ?_)) (by rfl)) rfl rfl rfl ?_
      | refine Jl.yd (Y.loadA rfl rfl agg40 (by repeat (first | exact .head _ | refine .tail _ ?_)) (by rfl)) rfl rfl rfl ?_
      | refine Jl.yd (Y.load1 rfl rfl sc3 (by repeat (first | exact .head _ | refine .tail _ ?_)) (by rfl)) rfl rfl rfl ?_
      | refine Jl.yd (Y.fld0 rfl rfl fld40_1) rfl rfl rfl ?_
      | refine Jl.yd (Y.fld0 rfl rfl fld40_2) rfl rfl rfl ?_
      | refine Jl.alloc rfl rfl rfl rfl zero40 (fun g => ?_)
      | refine Jl.storeA rfl rfl rfl rfl rfl sz40 (by repeat (first | exact .z | apply SetAt.s)) (by rfl) (by rfl) ?_
      | refine Jl.yd (Y.lenS Try.underlying46 rfl rfl rfl) rfl rfl rfl ?_
      | refine Jl.yd (Y.quoN (r := (((s.length - 1) / 2 : Nat) : Int)) rfl rfl rfl (by decide) hmid) rfl rfl rfl ?_
      | refine Jl.yd (Y.idx rfl rfl rfl el46 (by omega) (by omega)) rfl rfl rfl ?_
      | refine Jl.yd (Y.loadK z40 [.int .i64 m.f0, .int .i64 m.f1.f0, .int .i64 m.f1.f1, .int .i64 m.f1.f2, .int .i64 m.f1.f3, .bool m.f1.f4, .int .i64 m.f2] rfl rfl agg40 (by repeat (first | exact .head _ | refine .tail _ ?_)) (((s.length - 1) / 2 : Nat) : Int) (by omega) (by omega) (by rfl) (fun w cs h => (k40_open h).trans hus) (by rfl)) rfl rfl rfl ?_
      | refine Jl.call1 (v := .int .i64 (bAx a)) rfl rfl rfl rfl en54 rfl (fun w hW => by with_reducible first | exact spec_l24Base.calls a.f0 a.f1 a.f2 a.f3 a.f4 (bAx a) w hba | exact Calls.mono (spec_l24Base.calls a.f0 a.f1 a.f2 a.f3 a.f4 (bAx a) w hba) (fun _ _ hh => ⟨hh.1, hh.2.below⟩)) ?_
      | refine Jl.call1 (v := .int .i64 (bAx m.f1)) rfl rfl rfl rfl en54 rfl (fun w hW => by with_reducible first | exact spec_l24Base.calls m.f1.f0 m.f1.f1 m.f1.f2 m.f1.f3 m.f1.f4 (bAx m.f1) w hbm | exact Calls.mono (spec_l24Base.calls m.f1.f0 m.f1.f1 m.f1.f2 m.f1.f3 m.f1.f4 (bAx m.f1) w hbm) (fun _ _ hh => ⟨hh.1, hh.2.below⟩)) ?_
      | refine Jl.yd (Y.loadE (u := [.int .i64 m.f1.f0, .int .i64 m.f1.f1, .int .i64 m.f1.f2, .int .i64 m.f1.f3, .bool m.f1.f4]) rfl rfl agg25 (by repeat (first | exact .head _ | refine .tail _ ?_)) (by rfl) (by rfl)) rfl rfl rfl ?_
      | refine Jl.yd (Y.quoN (r := Int.tdiv (bAx a * m.f2) (bAx m.f1)) rfl rfl rfl (by omega) hq2) rfl rfl rfl ?_
      | refine Jl.splitG rfl rfl (fun h => ?_) (fun h => ?_))
    | (apply gateE; first
      | refine Jl.nil (Ej.go ?_ (fun _ _ h => h))
      | (refine Jl.nil (Ej.back (fun _ _ h => h) (by repeat (first | exact .refl | apply DropTo.tail)) ?_); repeat (first | exact trivial | refine ⟨rfl, ?_⟩)))
    | (apply gateC; first
      | refine Cj.block rfl ?_
      | refine Cj.regionD rfl (mkD [0, 1, 2, 3, 4, 6, 8, 9, 10] []) [] [0, 2, 5, 3, 6, 1, 4, 7, 8, 9, 10] mixed (by decide +kernel) ?_
      | refine Cj.ret rfl (Ej.out2 (P := Try.prog) (fn := Try.f43) (R := Rr) (fun _ _ h => h) rfl rfl rfl (fun w' hW => ⟨by rw [hE], hW.below⟩))
      | refine Cj.condF rfl rfl (Cj.skip rfl (Ej.go ?_ (fun _ _ h => h)))
      | (refine Cj.condF rfl rfl (Cj.skip rfl (Ej.back (fun _ _ h => h) (by repeat (first | exact .refl | apply DropTo.tail)) ?_)); repeat (first | exact trivial | refine ⟨rfl, ?_⟩))
      | refine Cj.condF rfl rfl ?_
      | refine Cj.condT rfl rfl ?_
      | refine Cj.exit rfl (Ej.go ?_ (fun _ _ h => h))
      | refine Cj.cond rfl rfl (fun h => ?_) (fun h => ?_)
      | refine Cj.skip rfl (Ej.go ?_ (fun _ _ h => h))
      | (refine Cj.skip rfl (Ej.back (fun _ _ h => h) (by repeat (first | exact .refl | apply DropTo.tail)) ?_); repeat (first | exact trivial | refine ⟨rfl, ?_⟩))
      | refine Cj.seq rfl ?_
      | refine Cj.region rfl ?_))
end ES
end Go.Proofs.Ytembbdhhpblapaa.WK

namespace Go.Proofs.Ytembbdhhpblapaa.WK
open Go Go.RowKit Go.Proofs.Ytembbdhhpblapaa.Q Go.Proofs.Ytembbdhhpblapaa.M Go.Proofs.YtembbdhhpblapaaW.PrintWords Go.Proofs.YtembbdhhpblapaaW.SL
open Go.Proofs.YtembbdhhpblapaaW.Pl (nth nth_get nth_mem)
set_option linter.unusedSimpArgs false
set_option linter.unusedVariables false
set_option maxRecDepth 100000
namespace EL
open Go.Proofs.Ytembbdhhpblapaa.M.EB
theorem agg23 : AggT Try.prog 23 5 := ⟨by kernel_rfl⟩
theorem en28 : Ent Try.prog 28 := ⟨enters_of Try.func28 (by kernel_rfl) rfl⟩
theorem en30 : Ent Try.prog 30 := ⟨enters_of Try.func30 (by kernel_rfl) rfl⟩
theorem en15 : Ent Try.prog 15 := ⟨enters_of Try.func15 (by kernel_rfl) rfl⟩
theorem en43 : Ent Try.prog 43 := ⟨enters_of Try.func43 (by kernel_rfl) rfl⟩
theorem en44 : Ent Try.prog 44 := ⟨enters_of Try.func44 (by kernel_rfl) rfl⟩
theorem en32 : Ent Try.prog 32 := ⟨enters_of Try.func32 (by kernel_rfl) rfl⟩
theorem mixed : Try.prog.follows .mixedOrders = true := by kernel_rfl
set_option maxHeartbeats 2000000 in
theorem walkA (l0 : List S36) (a : S25) (A0 : Option Addr) (c0 : Nat) (w : World) (hr0 : Kd.C k36 w A0 l0.length l0) (hc0 : l0.length ≤ c0) (r : Int) (hz : laws_szSaleS.f l0 1048576 = some r) (hr : r < 0) : Calls Try.prog 12 #[.slice A0 l0.length c0, .agg ([.int .i64 a.f0, .int .i64 a.f1, .int .i64 a.f2, .int .i64 a.f3, .bool a.f4] : List Value).toArray] w fun e w' => e = .returned (.bool true) ∧ Below w.heap.size w w' := by
  refine enterW (args := [.slice A0 l0.length c0, .agg ([.int .i64 a.f0, .int .i64 a.f1, .int .i64 a.f2, .int .i64 a.f3, .bool a.f4] : List Value).toArray]) [(fun W => Kd.C k36 W A0 l0.length l0)] (fun p hp W hb => by rw [List.mem_singleton.1 hp]; exact Kd.C_below hr0 hb) Try.func12 rfl rfl ?_
  repeat (first
    | (apply gateO; first
      | refine Jl.yd (Y.mv rfl rfl) rfl rfl rfl ?_
      | refine Jl.yd (Y.asg rfl rfl) rfl rfl rfl ?_
      | refine Jl.yd (Y.ext rfl rfl rfl) rfl rfl rfl ?_
      | refine Jl.yd (Y.pickT rfl rfl rfl) rfl rfl rfl ?_
      | refine Jl.yd (Y.pickF rfl rfl rfl) rfl rfl rfl ?_
      | refine Jl.off rfl rfl rfl ?_
      | refine Jl.yd (Y.cmpF rfl rfl rfl rfl (by omega)) rfl rfl rfl ?_
      | refine Jl.yd (Y.cmpT rfl rfl rfl rfl (by omega)) rfl rfl rfl ?_
      | refine Jl.yd (Y.neqB rfl rfl rfl Try.underlying4) rfl rfl rfl ?_
      | refine Jl.yd (Y.cmp rfl rfl rfl rfl) rfl rfl rfl ?_
      | refine Jl.yd (Y.not rfl rfl) rfl rfl rfl ?_
      | refine Jl.yd (Y.arithN rfl rfl rfl rfl (by omega)) rfl rfl rfl ?_
      | refine Jl.yd (Y.arith64 rfl rfl rfl rfl) rfl rfl rfl ?_
      | refine Jl.box (zs := [.int .i64 a.f0, .int .i64 a.f1, .int .i64 a.f2, .int .i64 a.f3, .bool a.f4]) rfl rfl rfl rfl rfl (by rfl) (fun g => ?_)
      | refine Jl.call1 (v := .int .i64 r) rfl rfl rfl rfl en28 rfl (fun w hW => by with_reducible first | exact laws_szSaleS.calls _ _ l0 1048576 r w (hW.fact (p := (fun W => Kd.C k36 W A0 l0.length l0)) (by repeat (first | exact memH | refine memT ?_))) hc0 hz | exact Calls.mono (laws_szSaleS.calls _ _ l0 1048576 r w (hW.fact (p := (fun W => Kd.C k36 W A0 l0.length l0)) (by repeat (first | exact memH | refine memT ?_))) hc0 hz) (fun _ _ hh => ⟨hh.1, hh.2.below⟩)) ?_
      | refine Jl.splitG rfl rfl (fun h => ?_) (fun h => ?_))
    | (apply gateE; first
      | refine Jl.nil (Ej.go ?_ (fun _ _ h => h))
      | (refine Jl.nil (Ej.back (fun _ _ h => h) (by repeat (first | exact .refl | apply DropTo.tail)) ?_); repeat (first | exact trivial | refine ⟨rfl, ?_⟩)))
    | (apply gateC; first
      | refine Cj.block rfl ?_
      | refine Cj.ret rfl (Ej.out1 (P := Try.prog) (fn := Try.f12) (R := fun e w' => e = .returned (.bool true) ∧ Below w.heap.size w w') (fun _ _ h => h) rfl rfl (fun w hW => ⟨rfl, hW.below⟩))
      | refine Cj.condF rfl rfl (Cj.skip rfl (Ej.go ?_ (fun _ _ h => h)))
      | (refine Cj.condF rfl rfl (Cj.skip rfl (Ej.back (fun _ _ h => h) (by repeat (first | exact .refl | apply DropTo.tail)) ?_)); repeat (first | exact trivial | refine ⟨rfl, ?_⟩))
      | refine Cj.condF rfl rfl ?_
      | refine Cj.condT rfl rfl ?_
      | refine Cj.exit rfl (Ej.go ?_ (fun _ _ h => h))
      | refine Cj.cond rfl rfl (fun h => ?_) (fun h => ?_)
      | refine Cj.skip rfl (Ej.go ?_ (fun _ _ h => h))
      | (refine Cj.skip rfl (Ej.back (fun _ _ h => h) (by repeat (first | exact .refl | apply DropTo.tail)) ?_); repeat (first | exact trivial | refine ⟨rfl, ?_⟩))
      | refine Cj.seq rfl ?_
      | refine Cj.region rfl ?_))
set_option maxHeartbeats 8000000 in
theorem walkC (l0 : List S36) (a : S25) (A0 : Option Addr) (c0 : Nat) (w : World) (hr0 : Kd.C k36 w A0 l0.length l0) (hc0 : l0.length ≤ c0) (r : Int) (hz : laws_szSaleS.f l0 1048576 = some r) (hr : ¬ r < 0) (l : List S40) (q : Int) (qb : Bool) (kt ke : Nat) (ht : laws_toSaleS.f kt l0 = some l) (he : laws_eqSaleS.f ke l l = some true) (hS : (∀ A c w, Kd.C k40 w A l.length l → l.length ≤ c → Calls Try.prog 43 [.slice A l.length c, .agg ([.int .i64 a.f0, .int .i64 a.f1, .int .i64 a.f2, .int .i64 a.f3, .bool a.f4] : List Value).toArray].toArray w fun e w' => e = .returned (.tuple #[.int .i64 q, .bool qb]) ∧ Below w.heap.size w w')) (hI : (∀ A c w, Kd.C k40 w A l.length l → l.length ≤ c → Calls Try.prog 44 [.slice A l.length c, .agg ([.int .i64 a.f0, .int .i64 a.f1, .int .i64 a.f2, .int .i64 a.f3, .bool a.f4] : List Value).toArray].toArray w fun e w' => e = .returned (.tuple #[.int .i64 q, .bool qb]) ∧ Below w.heap.size w w')) : Calls Try.prog 12 #[.slice A0 l0.length c0, .agg ([.int .i64 a.f0, .int .i64 a.f1, .int .i64 a.f2, .int .i64 a.f3, .bool a.f4] : List Value).toArray] w fun e w' => e = .returned (.bool true) ∧ Below w.heap.size w w' := by
  refine enterW (args := [.slice A0 l0.length c0, .agg ([.int .i64 a.f0, .int .i64 a.f1, .int .i64 a.f2, .int .i64 a.f3, .bool a.f4] : List Value).toArray]) [(fun W => Kd.C k36 W A0 l0.length l0)] (fun p hp W hb => by rw [List.mem_singleton.1 hp]; exact Kd.C_below hr0 hb) Try.func12 rfl rfl ?_
  repeat (first
    | (apply gateO; first
      | refine Jl.yd (Y.mv rfl rfl) rfl rfl rfl ?_
      | refine Jl.yd (Y.asg rfl rfl) rfl rfl rfl ?_
      | refine Jl.yd (Y.ext rfl rfl rfl) rfl rfl rfl ?_
      | refine Jl.yd (Y.pickT rfl rfl rfl) rfl rfl rfl ?_
      | refine Jl.yd (Y.pickF rfl rfl rfl) rfl rfl rfl ?_
      | refine Jl.off rfl rfl rfl ?_
      | refine Jl.yd (Y.cmpF rfl rfl rfl rfl (by omega)) rfl rfl rfl ?_
      | refine Jl.yd (Y.cmpT rfl rfl rfl rfl (by omega)) rfl rfl rfl ?_
      | refine Jl.yd (Y.neqB rfl rfl rfl Try.underlying4) rfl rfl rfl ?_
      | refine Jl.yd (Y.cmp rfl rfl rfl rfl) rfl rfl rfl ?_
      | refine Jl.yd (Y.not rfl rfl) rfl rfl rfl ?_
      | refine Jl.yd (Y.arithN rfl rfl rfl rfl (by omega)) rfl rfl rfl ?_
      | refine Jl.yd (Y.arith64 rfl rfl rfl rfl) rfl rfl rfl ?_
      | refine Jl.box (zs := [.int .i64 a.f0, .int .i64 a.f1, .int .i64 a.f2, .int .i64 a.f3, .bool a.f4]) rfl rfl rfl rfl rfl (by rfl) (fun g => ?_)
      | refine Jl.call1 (v := .int .i64 r) rfl rfl rfl rfl en28 rfl (fun w hW => by with_reducible first | exact laws_szSaleS.calls _ _ l0 1048576 r w (hW.fact (p := (fun W => Kd.C k36 W A0 l0.length l0)) (by repeat (first | exact memH | refine memT ?_))) hc0 hz | exact Calls.mono (laws_szSaleS.calls _ _ l0 1048576 r w (hW.fact (p := (fun W => Kd.C k36 W A0 l0.length l0)) (by repeat (first | exact memH | refine memT ?_))) hc0 hz) (fun _ _ hh => ⟨hh.1, hh.2.below⟩)) ?_
      | refine Jl.yd (Y.loadA rfl rfl agg23 (by repeat (first | exact .head _ | refine .tail _ ?_)) (by rfl)) rfl rfl rfl ?_
      | refine Jl.callR 0 (fun v => v) rfl rfl rfl rfl en30 rfl (fun w hW => by with_reducible exact laws_toSaleS.calls kt _ _ l0 l w (hW.fact (p := (fun W => Kd.C k36 W A0 l0.length l0)) (by repeat (first | exact memH | refine memT ?_))) hc0 ht) (fun A c hl => ?_)
      | refine Jl.call1 (v := .agg ([.int .i64 a.f0, .int .i64 a.f1, .int .i64 a.f2, .int .i64 a.f3, .bool a.f4] : List Value).toArray) rfl rfl rfl rfl en15 rfl (fun w hW => by with_reducible first | exact laws_toAppraisal.calls a.f0 a.f1 a.f2 a.f3 a.f4 a.f0 a.f1 a.f2 a.f3 a.f4 w rfl | exact Calls.mono (laws_toAppraisal.calls a.f0 a.f1 a.f2 a.f3 a.f4 a.f0 a.f1 a.f2 a.f3 a.f4 w rfl) (fun _ _ hh => ⟨hh.1, hh.2.below⟩)) ?_
      | refine Jl.call1 (v := .tuple #[.int .i64 q, .bool qb]) rfl rfl rfl rfl en43 rfl (fun w hW => by with_reducible first | exact hS _ _ w (hW.rowC (by repeat (first | exact memH | refine memT ?_))) (hW.rowCap (by repeat (first | exact memH | refine memT ?_))).2 | exact Calls.mono (hS _ _ w (hW.rowC (by repeat (first | exact memH | refine memT ?_))) (hW.rowCap (by repeat (first | exact memH | refine memT ?_))).2) (fun _ _ hh => ⟨hh.1, hh.2.below⟩)) ?_
      | refine Jl.call1 (v := .tuple #[.int .i64 q, .bool qb]) rfl rfl rfl rfl en44 rfl (fun w hW => by with_reducible first | exact hI _ _ w (hW.rowC (by repeat (first | exact memH | refine memT ?_))) (hW.rowCap (by repeat (first | exact memH | refine memT ?_))).2 | exact Calls.mono (hI _ _ w (hW.rowC (by repeat (first | exact memH | refine memT ?_))) (hW.rowCap (by repeat (first | exact memH | refine memT ?_))).2) (fun _ _ hh => ⟨hh.1, hh.2.below⟩)) ?_
      | refine Jl.call1 (v := .bool true) rfl rfl rfl rfl en32 rfl (fun w hW => by with_reducible first | exact laws_eqSaleS.calls ke _ _ l _ _ l true w (hW.rowC (by repeat (first | exact memH | refine memT ?_))) (hW.rowCap (by repeat (first | exact memH | refine memT ?_))).2 (hW.rowC (by repeat (first | exact memH | refine memT ?_))) (hW.rowCap (by repeat (first | exact memH | refine memT ?_))).2 he | exact Calls.mono (laws_eqSaleS.calls ke _ _ l _ _ l true w (hW.rowC (by repeat (first | exact memH | refine memT ?_))) (hW.rowCap (by repeat (first | exact memH | refine memT ?_))).2 (hW.rowC (by repeat (first | exact memH | refine memT ?_))) (hW.rowCap (by repeat (first | exact memH | refine memT ?_))).2 he) (fun _ _ hh => ⟨hh.1, hh.2.below⟩)) ?_
      | refine Jl.yd (Y.neqB rfl rfl rfl Try.underlying4) rfl rfl rfl ?_
      | refine Jl.splitG rfl rfl (fun h => ?_) (fun h => ?_))
    | (apply gateE; first
      | refine Jl.nil (Ej.go ?_ (fun _ _ h => h))
      | (refine Jl.nil (Ej.back (fun _ _ h => h) (by repeat (first | exact .refl | apply DropTo.tail)) ?_); repeat (first | exact trivial | refine ⟨rfl, ?_⟩)))
    | (apply gateC; first
      | refine Cj.block rfl ?_
      | refine Cj.regionD rfl (mkD [0, 1, 5, 6, 7, 8, 9] []) [] [0, 2, 1, 3, 4, 5, 6, 7, 8, 9] mixed (by decide +kernel) ?_
      | refine Cj.ret rfl (Ej.out1 (P := Try.prog) (fn := Try.f12) (R := fun e w' => e = .returned (.bool true) ∧ Below w.heap.size w w') (fun _ _ h => h) rfl rfl (fun w hW => ⟨rfl, hW.below⟩))
      | refine Cj.condF rfl rfl (Cj.skip rfl (Ej.go ?_ (fun _ _ h => h)))
      | (refine Cj.condF rfl rfl (Cj.skip rfl (Ej.back (fun _ _ h => h) (by repeat (first | exact .refl | apply DropTo.tail)) ?_)); repeat (first | exact trivial | refine ⟨rfl, ?_⟩))
      | refine Cj.condF rfl rfl ?_
      | refine Cj.condT rfl rfl ?_
      | refine Cj.exit rfl (Ej.go ?_ (fun _ _ h => h))
      | refine Cj.cond rfl rfl (fun h => ?_) (fun h => ?_)
      | refine Cj.skip rfl (Ej.go ?_ (fun _ _ h => h))
      | (refine Cj.skip rfl (Ej.back (fun _ _ h => h) (by repeat (first | exact .refl | apply DropTo.tail)) ?_); repeat (first | exact trivial | refine ⟨rfl, ?_⟩))
      | refine Cj.seq rfl ?_
      | refine Cj.region rfl ?_))
/-- The program's EstimateBy returns what the reference's returns. -/
theorem full (l0 : List S36) (a : S25) (A0 : Option Addr) (c0 : Nat) (w : World) (hr0 : Kd.C k36 w A0 l0.length l0) (hc0 : l0.length ≤ c0) (hm0 : l0.length ≤ maxLen) : Calls Try.prog 12 #[.slice A0 l0.length c0, .agg ([.int .i64 a.f0, .int .i64 a.f1, .int .i64 a.f2, .int .i64 a.f3, .bool a.f4] : List Value).toArray] w fun e w' => e = .returned (.bool true) ∧ Below w.heap.size w w' := by
  obtain ⟨r, hz, hr⟩ := szSales l0 hm0
  by_cases h1 : r < 0
  · exact walkA l0 a A0 c0 w hr0 hc0 r hz h1
  have hls : l0.length ≤ 1048576 := by
    rcases Nat.lt_or_ge 1048576 l0.length with h | h
    · exact absurd (hr.2 h) h1
    · exact h
  have e2 := toSales l0 hls (l0.length + 1) (by omega)
  have hl : (l0.map cvS).length ≤ 1048576 := by simpa using hls
  generalize l0.map cvS = l at e2 hl
  exact walkC l0 a A0 c0 w hr0 hc0 r hz h1 l _ _ _ _ e2 (eqSales l hl (l.length + 1) (by omega)) (fun A c w h1 h2 => ES.calls (l.length + 1) A c l a w h1 h2 hl (by omega)) (fun A c w h1 h2 => EI.calls (l.length + 1) A c l a w h1 h2 hl (by omega))
end EL
end Go.Proofs.Ytembbdhhpblapaa.WK

namespace Go.Proofs.Ytembbdhhpblapaa.Wk
open Go Go.RowKit Go.Proofs.Ytembbdhhpblapaa.Q Go.Proofs.Ytembbdhhpblapaa.WK Go.Proofs.YtembbdhhpblapaaW.PrintWords
theorem FnExactEstimateBy : laws_FnExactEstimateBy.Goal := fun l0 a0 a1 a2 a3 a4 A0 c0 w hr0 hc0 q0 _ => EL.full l0 ⟨a0, a1, a2, a3, a4⟩ A0 c0 w hr0 hc0 q0.1
end Go.Proofs.Ytembbdhhpblapaa.Wk

namespace Go.Proofs.Ytembbdhhpblapaa.fnExactEstimateBy
open Go.ChangeShapes Go.WideShapes Go.ChangeAt Go.RowKit Go.Proofs.Ytembbdhhpblapaa.Q Go.Proofs.YtembbdhhpblapaaW.Open Go.Proofs.YtembbdhhpblapaaW.PrintWords
set_option linter.unusedVariables false
theorem own : ownKnob Try.prog.godebug = none := by kernel_rfl
theorem laidOut : laidOutB Try.prog = true := by kernel_rfl
set_option maxRecDepth 100000 in
theorem lifted (os : Os) (started : os.Started) (H : Type) (enc : TypeId × Value → H) :
    ReturnsInHanded {} Try.checked os 12 .any (Rows.fnExactEstimateBySpec.pre6 enc Try.prog Try.f12 Rows.fnExactEstimateByRow.domain false) (Rows.fnExactEstimateBySpec.post enc Try.prog Try.f12 false true false false) := by
  refine returnsInHanded_of_change_sized (C := Try.checked) own started (by kernel_rfl) Try.func12
    (ChangeSpec.witness6 (enc := enc) (C := Try.checked) false ⟨#[], #[.slice none 0 0, .agg #[.int .i64 0, .int .i64 0, .int .i64 0, .int .i64 0, .bool false]], []⟩ 8 (by kernel_rfl) (by kernel_rfl) (by kernel_rfl) (by kernel_rfl)) ?_
  intro W base args ds gs before hval0 hW hcnd hsz0 _
  have hval : ∀ (j : Nat) t v, Try.f12.params[j]? = some t → args[j]? = some v → Value.okWide Try.prog W .any base t v := hval0
  have hW' := hW
  obtain ⟨p, q, hA0, hV, rfl, hfz, hnd⟩ := hW
  have hA : DataW.TrodAll enc Try.prog W 0 (fun _ => true) true Try.f12.params.toList args.toList ds p := hA0
  rw [Try.params12] at hA hval
  obtain ⟨v0, vs0, d0, ds0, p0, q0, hargs, rfl, rfl, h0, r0⟩ := trodAll_cons hA
  obtain ⟨v1, vs1, d1, ds1, p1, q1, rfl, rfl, rfl, h1, r1⟩ := trodAll_cons r0
  obtain ⟨rfl, rfl, rfl⟩ := trodAll_nil r1
  obtain rfl : args = #[v0, v1] := by cases args; simp_all
  obtain ⟨rfl, rfl⟩ := trodVars_none hV
  have k0 := h0
  have lt0 : ∀ x ∈ p0, x.block < W.heap.size := by obtain ⟨m, hm⟩ := k0; exact DataW.trod_lt m _ _ _ hm
  obtain ⟨a0, len0, cap0, rfl⟩ := okWide_slice Try.underlying43 (hval 0 43 v0 rfl rfl)
  obtain ⟨fu0, hf0⟩ := h0
  obtain ⟨x0, ⟨A0, c0, hk0, hc0, hr0⟩, q0⟩ := ((Opn.slice Try.underlying43 (n0 := 7) (by kernel_rfl) rfl opn36)).out hf0
  simp [Value.cells] at hk0
  obtain ⟨rfl, rfl, rfl⟩ := hk0
  have k1 := h1
  have lt1 : ∀ x ∈ p1, x.block < W.heap.size := by obtain ⟨m, hm⟩ := k1; exact DataW.trod_lt m _ _ _ hm
  obtain ⟨cs1, rfl, _⟩ := okWide_struct Try.underlying23 (hval 1 23 v1 rfl rfl)
  obtain ⟨fu1, hf1⟩ := h1
  obtain ⟨x1, hk1, q1⟩ := (opn23).out hf1
  have ho1 := k23_open hk1
  obtain rfl : cs1 = #[.int .i64 x1.f0, .int .i64 x1.f1, .int .i64 x1.f2, .int .i64 x1.f3, .bool x1.f4] := by cases cs1; simpa [Value.cells] using ho1
  refine (Go.Proofs.Ytembbdhhpblapaa.Wk.FnExactEstimateBy x0 x1.f0 x1.f1 x1.f2 x1.f3 x1.f4 _ _ W hr0 hc0 q0 q1).mono fun e W' ⟨he, bel⟩ => ?_
  subst he
  exact ⟨_, rfl, _, _, _, [], _, [], hW', trodAll_mk1 (shut_bool Try.underlying4 _), (trodAll_cons_mk (Below.trod laidOut (by kernel_rfl) (of_decide_eq_true (by kernel_rfl)) k0 bel lt0) (trodAll_cons_mk (Below.trod laidOut (by kernel_rfl) (of_decide_eq_true (by kernel_rfl)) k1 bel lt1) trodAll_mk0)), rfl, bel.frame _, fun h => by cases h⟩
theorem over : Rows.fnExactEstimateByRow.holds Try.pinned (OpenSpec.ofChange Rows.fnExactEstimateBySpec) :=
  OpenClaim.holds_of_wide 12 Try.f12 rfl rfl rfl rfl rfl rfl rfl ⟨rfl, rfl, rfl, rfl, rfl⟩ rfl rfl rfl rfl rfl (by kernel_rfl) Try.func12 (by kernel_rfl)
    (of_decide_eq_true (by kernel_rfl)) (by unfold Func.isWrapper; first | (rw [if_pos (by decide +kernel)]; kernel_rfl) | (rw [if_neg (by decide +kernel)]; exact ⟨rfl, rfl⟩))
    (fun os started H enc _ => lifted os started H enc)
theorem proved : Rows.FnExactEstimateBySaid := over
end Go.Proofs.Ytembbdhhpblapaa.fnExactEstimateBy
namespace Go.Proofs.Ytembbdhhpblapaa
/-- The row, under a short name, for the claim. -/
theorem fnExactEstimateBy_holds : Rows.FnExactEstimateBySaid := fnExactEstimateBy.proved
end Go.Proofs.Ytembbdhhpblapaa

#print axioms Go.Proofs.Ytembbdhhpblapaa.fnExactEstimateBy_holds
