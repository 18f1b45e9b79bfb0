/- The program's FewestRepairs returns what the reference's returns, for all arguments: no condition. -/
import Derived.KernelRfl
import Derived.Test.YtkglpfdoefdhdaaRows
import Derived.WalkKit
import Derived.ProofKit
import Derived.OpenShut
import Derived.ShutString
import Derived.ChangeOld
import Derived.Below
import Derived.SizedLaws
import Derived.Carry
import Derived.ChangeVars
import Derived.Test.YtkglpfdoefdhdaaZFnExactFewestRepairs6
namespace Go.Proofs.Ytkglpfdoefdhdaa.WK
open Go Go.RowKit Go.Proofs.Ytkglpfdoefdhdaa.Q Go.Proofs.Ytkglpfdoefdhdaa.M Go.Proofs.YtkglpfdoefdhdaaW.PrintWords Go.Proofs.YtkglpfdoefdhdaaW.SL
open Go.Proofs.YtkglpfdoefdhdaaW.Pl (nth nth_get nth_mem)
set_option linter.unusedSimpArgs false
set_option linter.unusedVariables false
set_option maxRecDepth 100000
namespace FW
open MO (mixed sc3 agg26 zero3 rng rng_succ rng_len rng_mem)
open IF (enc agg35 el27)
open NF (zero35 sz35)
set_option maxHeartbeats 8000000 in
/-- The program's sum of weights. -/
theorem fsum {wd ht : Int} {cs : List Int} {l : List S35} (hg : goodC wd ht cs = true) (ho : ∀ x ∈ l, okF wd ht x = true) (hl : l.length ≤ 12) (A0 : Option Addr) (c0 : Nat) (A1 : Option Addr) (c1 : Nat) (w : World) (hrC : Kd.C (Kd.int .i64) w A0 cs.length cs) (hc : cs.length ≤ c0) (hrH : Kd.C k35 w A1 l.length l) : Calls Try.prog 87 #[.agg #[.int .i64 wd, .int .i64 ht, .slice A0 cs.length c0], .slice A1 l.length c1] w fun e w' => e = .returned (.int .i64 (wsum wd ht l)) ∧ Below w.heap.size w w' := by
  let Rr : Ending → World → Prop := fun e w' => e = .returned (.int .i64 (wsum wd ht l)) ∧ Below w.heap.size w w'
  refine enterW (args := [.agg #[.int .i64 wd, .int .i64 ht, .slice A0 cs.length c0], .slice A1 l.length c1]) [(fun W => Kd.C (Kd.int .i64) W A0 cs.length cs), (fun W => Kd.C k35 W A1 l.length l)] (fun p hp W hb => by
    rcases List.mem_cons.1 hp with rfl | hp
    · exact Kd.C_below hrC hb
    · rw [List.mem_singleton.1 hp]; exact Kd.C_below hrH hb) Try.func87 rfl rfl ?_
  show Cj Try.prog _ _ _ (bodyPost Try.prog Try.f87 Rr) _ _ _
  repeat (first
    | (apply gateO; first
      | refine Jl.yd (Y.mv rfl rfl) rfl rfl rfl ?_
      | refine Jl.yd (Y.asg rfl rfl) rfl rfl rfl ?_
      | refine Jl.yd (Y.ext rfl rfl rfl) rfl rfl rfl ?_
      | refine Jl.yd (Y.pickT rfl rfl rfl) rfl rfl rfl ?_
      | refine Jl.yd (Y.pickF rfl rfl rfl) rfl rfl rfl ?_
      | refine Jl.off rfl rfl rfl ?_
      | refine Jl.yd (Y.cmpF rfl rfl rfl rfl (by omega)) rfl rfl rfl ?_
      | refine Jl.yd (Y.cmpT rfl rfl rfl rfl (by omega)) rfl rfl rfl ?_
      | refine Jl.yd (Y.neqB rfl rfl rfl Try.underlying4) rfl rfl rfl ?_
      | refine Jl.yd (Y.cmp rfl rfl rfl rfl) rfl rfl rfl ?_
      | refine Jl.yd (Y.not rfl rfl) rfl rfl rfl ?_
      | refine Jl.yd (Y.arithN rfl rfl rfl rfl (by omega)) rfl rfl rfl ?_
      | refine Jl.yd (Y.arith64 rfl rfl rfl rfl) rfl rfl rfl ?_
      | refine Jl.yd (Y.loadA rfl rfl agg26 (by repeat (first | exact .head _ | refine .tail _ ?_)) (by rfl)) rfl rfl rfl ?_
      | refine Jl.yd (Y.lenS Try.underlying27 rfl rfl rfl) rfl rfl rfl ?_
      | refine Jl.box (zs := [.int .i64 wd, .int .i64 ht, .slice A0 cs.length c0]) rfl rfl rfl rfl rfl (by rfl) (fun gc => ?_)
      | refine Jl.splitG rfl rfl (fun h => ?_) (fun h => ?_))
    | (apply gateE; first
      | refine Jl.nil (Ej.go ?_ (fun _ _ h => h))
      | (refine Jl.nil (Ej.back (fun _ _ h => h) (by repeat (first | exact .refl | apply DropTo.tail)) ?_); repeat (first | exact trivial | refine ⟨rfl, ?_⟩)))
    | (apply gateC; first
      | refine Cj.block rfl ?_
      | refine Cj.condF rfl rfl (Cj.skip rfl (Ej.go ?_ (fun _ _ h => h)))
      | (refine Cj.condF rfl rfl (Cj.skip rfl (Ej.back (fun _ _ h => h) (by repeat (first | exact .refl | apply DropTo.tail)) ?_)); repeat (first | exact trivial | refine ⟨rfl, ?_⟩))
      | refine Cj.condF rfl rfl ?_
      | refine Cj.condT rfl rfl ?_
      | refine Cj.exit rfl (Ej.go ?_ (fun _ _ h => h))
      | refine Cj.cond rfl rfl (fun h => ?_) (fun h => ?_)
      | refine Cj.skip rfl (Ej.go ?_ (fun _ _ h => h))
      | (refine Cj.skip rfl (Ej.back (fun _ _ h => h) (by repeat (first | exact .refl | apply DropTo.tail)) ?_); repeat (first | exact trivial | refine ⟨rfl, ?_⟩))
      | refine Cj.seq rfl ?_
      | refine Cj.region rfl ?_))
  refine Cj.loopP (ι := Nat) (fun i => i ≤ l.length) (fun i => [(2, .pointer (some ⟨gc, 0, none⟩)), (5, .int .i64 (wsum wd ht (l.take i))), (8, .slice A1 l.length c1), (9, .int .i64 (l.length : Int)), (10, .int .i64 (i : Int))]) (fun _ => [.box gc 26 [.int .i64 wd, .int .i64 ht, .slice A0 cs.length c0]]) (fun _ => [(fun W => Kd.C (Kd.int .i64) W A0 cs.length cs), (fun W => Kd.C k35 W A1 l.length l)]) (fun i => l.length - i) rfl 0 (Nat.zero_le _) ⟨rfl, rfl, rfl, rfl, rfl, trivial⟩ (by repeat (first | exact .nil | refine Pick.cons (by repeat (first | exact .z | apply OutAt.s)) ?_)) (fun p hp => hp) (fun i hi => ?_)
  have hwb := wsum_b (take_ok ho i)
  rw [List.length_take] at hwb
  by_cases hlt : i < l.length
  · obtain ⟨ad, rfl, _⟩ := hrH.2.2 (by omega)
    obtain ⟨y, hy⟩ : ∃ y, nth l i z35 = y := ⟨_, rfl⟩
    have hyo : okF wd ht y = true := hy ▸ ho _ (nth_mem hlt)
    have hyw := wt_b hyo
    have hws := wsum_take (wd := wd) (ht := ht) hlt
    rw [hy] at hws
    have huy : ([.int .i64 (l.getD ((i : Nat) : Int).toNat z35).f0, .int .i64 (l.getD ((i : Nat) : Int).toNat z35).f1, .int .i64 (l.getD ((i : Nat) : Int).toNat z35).f2, .int .i64 (l.getD ((i : Nat) : Int).toNat z35).f3] : List Value) = [.int .i64 y.f0, .int .i64 y.f1, .int .i64 y.f2, .int .i64 y.f3] := by
      have hx2 : l.getD i z35 = y := hy
      rw [Int.toNat_natCast, hx2]
    repeat (first
    | (apply gateO; first
      | refine Jl.yd (Y.mv rfl rfl) rfl rfl rfl ?_
      | refine Jl.yd (Y.asg rfl rfl) rfl rfl rfl ?_
      | refine Jl.yd (Y.ext rfl rfl rfl) rfl rfl rfl ?_
      | refine Jl.yd (Y.pickT rfl rfl rfl) rfl rfl rfl ?_
      | refine Jl.yd (Y.pickF rfl rfl rfl) rfl rfl rfl ?_
      | refine Jl.off rfl rfl rfl ?_
      | refine Jl.yd (Y.cmpF rfl rfl rfl rfl (by omega)) rfl rfl rfl ?_
      | refine Jl.yd (Y.cmpT rfl rfl rfl rfl (by omega)) rfl rfl rfl ?_
      | refine Jl.yd (Y.neqB rfl rfl rfl Try.underlying4) rfl rfl rfl ?_
      | refine Jl.yd (Y.cmp rfl rfl rfl rfl) rfl rfl rfl ?_
      | refine Jl.yd (Y.not rfl rfl) rfl rfl rfl ?_
      | refine Jl.yd (Y.arithN rfl rfl rfl rfl (by omega)) rfl rfl rfl ?_
      | refine Jl.yd (Y.arith64 rfl rfl rfl rfl) rfl rfl rfl ?_
      | refine Jl.yd (Y.loadA rfl rfl agg26 (by repeat (first | exact .head _ | refine .tail _ ?_)) (by rfl)) rfl rfl rfl ?_
      | refine Jl.yd (Y.loadA rfl rfl agg35 (by repeat (first | exact .head _ | refine .tail _ ?_)) (by rfl)) rfl rfl rfl ?_
      | refine Jl.yd (Y.lenS Try.underlying27 rfl rfl rfl) rfl rfl rfl ?_
      | refine Jl.yd (Y.idx rfl rfl rfl el27 (by omega) (by omega)) rfl rfl rfl ?_
      | refine Jl.yd (Y.loadK z35 [.int .i64 y.f0, .int .i64 y.f1, .int .i64 y.f2, .int .i64 y.f3] rfl rfl agg35 (by repeat (first | exact memH | refine memT ?_)) ((i : Nat) : Int) (by omega) (by omega) (by rfl) (fun w cs h => (k35_open h).trans huy) (by rfl)) rfl rfl rfl ?_
      | refine Jl.alloc rfl rfl rfl rfl zero35 (fun ga => ?_)
      | refine Jl.storeA rfl rfl rfl rfl rfl sz35 (by repeat (first | exact .z | apply SetAt.s)) (by rfl) (by rfl) ?_
      | refine Jl.call1 (v := .int .i64 (wtF wd ht y)) rfl rfl rfl rfl en86 rfl (fun w hW => by with_reducible exact fw hg hyo A0 c0 w (hW.fact (p := (fun W => Kd.C (Kd.int .i64) W A0 cs.length cs)) (by repeat (first | exact memH | refine memT ?_))) hc) ?_
      | refine Jl.splitG rfl rfl (fun h => ?_) (fun h => ?_))
    | (apply gateE; first
      | refine Jl.nil (Ej.go ?_ (fun _ _ h => h))
      | (refine Jl.nil (Ej.back (fun _ _ h => h) (by repeat (first | exact .refl | apply DropTo.tail)) ?_); repeat (first | exact trivial | refine ⟨rfl, ?_⟩)))
    | (apply gateC; first
      | refine Cj.block rfl ?_
      | refine Cj.condF rfl rfl (Cj.skip rfl (Ej.go ?_ (fun _ _ h => h)))
      | (refine Cj.condF rfl rfl (Cj.skip rfl (Ej.back (fun _ _ h => h) (by repeat (first | exact .refl | apply DropTo.tail)) ?_)); repeat (first | exact trivial | refine ⟨rfl, ?_⟩))
      | refine Cj.condF rfl rfl ?_
      | refine Cj.condT rfl rfl ?_
      | refine Cj.exit rfl (Ej.go ?_ (fun _ _ h => h))
      | refine Cj.cond rfl rfl (fun h => ?_) (fun h => ?_)
      | refine Cj.skip rfl (Ej.go ?_ (fun _ _ h => h))
      | (refine Cj.skip rfl (Ej.back (fun _ _ h => h) (by repeat (first | exact .refl | apply DropTo.tail)) ?_); repeat (first | exact trivial | refine ⟨rfl, ?_⟩))
      | refine Cj.seq rfl ?_
      | refine Cj.region rfl ?_))
    refine Jl.nil (Ej.cutP (ι := Nat) _ _ _ _ (fun _ _ h => h) (i + 1) ⟨by (try dsimp only); omega, by (try dsimp only); omega⟩ ⟨rfl, by (try dsimp only); rw [hws]; rfl, rfl, rfl, rfl, trivial⟩ (by repeat (first | exact .nil | refine Pick.cons (by repeat (first | exact .z | apply OutAt.s)) ?_)) (fun p hp => hp))
  · obtain rfl : i = l.length := by omega
    rw [List.take_length]
    repeat (first
    | (apply gateO; first
      | refine Jl.yd (Y.mv rfl rfl) rfl rfl rfl ?_
      | refine Jl.yd (Y.asg rfl rfl) rfl rfl rfl ?_
      | refine Jl.yd (Y.ext rfl rfl rfl) rfl rfl rfl ?_
      | refine Jl.yd (Y.pickT rfl rfl rfl) rfl rfl rfl ?_
      | refine Jl.yd (Y.pickF rfl rfl rfl) rfl rfl rfl ?_
      | refine Jl.off rfl rfl rfl ?_
      | refine Jl.yd (Y.cmpF rfl rfl rfl rfl (by omega)) rfl rfl rfl ?_
      | refine Jl.yd (Y.cmpT rfl rfl rfl rfl (by omega)) rfl rfl rfl ?_
      | refine Jl.yd (Y.neqB rfl rfl rfl Try.underlying4) rfl rfl rfl ?_
      | refine Jl.yd (Y.cmp rfl rfl rfl rfl) rfl rfl rfl ?_
      | refine Jl.yd (Y.not rfl rfl) rfl rfl rfl ?_
      | refine Jl.yd (Y.arithN rfl rfl rfl rfl (by omega)) rfl rfl rfl ?_
      | refine Jl.yd (Y.arith64 rfl rfl rfl rfl) rfl rfl rfl ?_
      | refine Jl.yd (Y.lenS Try.underlying27 rfl rfl rfl) rfl rfl rfl ?_
      | refine Jl.splitG rfl rfl (fun h => ?_) (fun h => ?_))
    | (apply gateE; first
      | refine Jl.nil (Ej.go ?_ (fun _ _ h => h))
      | (refine Jl.nil (Ej.back (fun _ _ h => h) (by repeat (first | exact .refl | apply DropTo.tail)) ?_); repeat (first | exact trivial | refine ⟨rfl, ?_⟩)))
    | (apply gateC; first
      | refine Cj.block rfl ?_
      | refine Cj.ret rfl (Ej.out1 (P := Try.prog) (fn := Try.f87) (R := Rr) (fun _ _ h => h) rfl rfl (fun w' hW => ⟨rfl, hW.below⟩))
      | refine Cj.condF rfl rfl (Cj.skip rfl (Ej.go ?_ (fun _ _ h => h)))
      | (refine Cj.condF rfl rfl (Cj.skip rfl (Ej.back (fun _ _ h => h) (by repeat (first | exact .refl | apply DropTo.tail)) ?_)); repeat (first | exact trivial | refine ⟨rfl, ?_⟩))
      | refine Cj.condF rfl rfl ?_
      | refine Cj.condT rfl rfl ?_
      | refine Cj.exit rfl (Ej.go ?_ (fun _ _ h => h))
      | refine Cj.cond rfl rfl (fun h => ?_) (fun h => ?_)
      | refine Cj.skip rfl (Ej.go ?_ (fun _ _ h => h))
      | (refine Cj.skip rfl (Ej.back (fun _ _ h => h) (by repeat (first | exact .refl | apply DropTo.tail)) ?_); repeat (first | exact trivial | refine ⟨rfl, ?_⟩))
      | refine Cj.seq rfl ?_
      | refine Cj.region rfl ?_))
end FW
end Go.Proofs.Ytkglpfdoefdhdaa.WK

namespace Go.Proofs
end Go.Proofs
namespace Go.Proofs.Ytkglpfdoefdhdaa.WK
open Go Go.RowKit Go.Proofs.Ytkglpfdoefdhdaa.Q Go.Proofs.Ytkglpfdoefdhdaa.M Go.Proofs.YtkglpfdoefdhdaaW.PrintWords Go.Proofs.YtkglpfdoefdhdaaW.SL
open Go.Proofs.YtkglpfdoefdhdaaW.Pl (nth nth_get nth_mem)
set_option linter.unusedSimpArgs false
set_option linter.unusedVariables false
set_option maxRecDepth 100000
namespace FR
open MO (mixed sc3 agg26 zero3 el24 ap24 rng rng_succ rng_len rng_mem outI rowI cmp_lt)
open IF (enc agg35 el27 flat35 ap27)
open NF (zero35 sz35)
open FW
open Go.Proofs.YtkglpfdoefdhdaaW.SL (isort_map)
theorem sc27 : ScT Try.prog 27 := ⟨by kernel_rfl⟩
theorem en81 : Ent Try.prog 81 := ⟨enters_of Try.func81 (by kernel_rfl) rfl⟩
theorem en82 : Ent Try.prog 82 := ⟨enters_of Try.func82 (by kernel_rfl) rfl⟩
theorem en83 : Ent Try.prog 83 := ⟨enters_of Try.func83 (by kernel_rfl) rfl⟩
theorem en85 : Ent Try.prog 85 := ⟨enters_of Try.func85 (by kernel_rfl) rfl⟩
theorem en86 : Ent Try.prog 86 := ⟨enters_of Try.func86 (by kernel_rfl) rfl⟩
theorem en87 : Ent Try.prog 87 := ⟨enters_of Try.func87 (by kernel_rfl) rfl⟩
theorem en88 : Ent Try.prog 88 := ⟨enters_of Try.func88 (by kernel_rfl) rfl⟩
theorem en89 : Ent Try.prog 89 := ⟨enters_of Try.func89 (by kernel_rfl) rfl⟩
theorem en84 : Ent Try.prog 84 := ⟨enters_of Try.func84 (by kernel_rfl) rfl⟩
theorem inG {m : Int} {b : Bool} (h : decide (1 ≤ m ∧ m ≤ 4) = b) (w : World) : Calls Try.prog 82 #[.int .i64 m, .int .i64 1, .int .i64 4] w fun e w' => e = .returned (.bool b) ∧ Below w.heap.size w w' :=
  (impl_in.calls m 1 4 b w (by rw [iIn, h])).mono (fun _ _ hh => ⟨hh.1, hh.2.below⟩)
theorem grC (s : Int) (w : World) : Calls Try.prog 88 #[.int .i64 s] w fun e w' => e = .returned (.int .i64 (gr s)) ∧ Below w.heap.size w w' :=
  (impl_gradeOf.calls s (gr s) w (iGr s)).mono (fun _ _ hh => ⟨hh.1, hh.2.below⟩)
/-- The weight of flaw i. -/
def wI (wd ht : Int) (l : List S35) (i : Int) : Int := wtF wd ht (nth l i.toNat z35)
set_option maxHeartbeats 4000000 in
theorem clo {wd ht : Int} {cs : List Int} {l : List S35} (hg : goodC wd ht cs = true) (ho : ∀ i, i < l.length → okF wd ht (nth l i z35) = true) (A0 : Option Addr) (c0 : Nat) (A1 : Option Addr) (c1 gc gh : Nat) (w : World) (hc : cs.length ≤ c0)
    (hbC : w.heap[gc]? = some (.cells ([.int .i64 wd, .int .i64 ht, .slice A0 cs.length c0] : List Value).toArray 26 (0, 0))) (hbH : w.heap[gh]? = some (.cells ([.slice A1 l.length c1] : List Value).toArray 27 (0, 0))) (hrC : Kd.C (Kd.int .i64) w A0 cs.length cs) (hrH : Kd.C k35 w A1 l.length l) (i k : Nat) (hi : i < l.length) (hk : k < l.length) (hl8 : l.length ≤ 12) :
    Calls Try.prog 84 (#[.int .i64 (i : Int), .int .i64 (k : Int)] ++ #[.pointer (some ⟨gc, 0, none⟩), .pointer (some ⟨gh, 0, none⟩)]) w fun e w' => e = .returned (.int .i64 (cmpI (wI wd ht l (k : Int)) (wI wd ht l (i : Int)))) ∧ Below w.heap.size w w' := by
  have hltC := blk_lt hbC
  have hltH := blk_lt hbH
  obtain ⟨ad, rfl, _⟩ := hrH.2.2 (by omega)
  obtain ⟨x, hx⟩ : ∃ x, nth l i z35 = x := ⟨_, rfl⟩
  obtain ⟨y, hy⟩ : ∃ y, nth l k z35 = y := ⟨_, rfl⟩
  have hxo : okF wd ht x = true := hx ▸ ho i hi
  have hyo : okF wd ht y = true := hy ▸ ho k hk
  have hux : ([.int .i64 (l.getD ((i : Nat) : Int).toNat z35).f0, .int .i64 (l.getD ((i : Nat) : Int).toNat z35).f1, .int .i64 (l.getD ((i : Nat) : Int).toNat z35).f2, .int .i64 (l.getD ((i : Nat) : Int).toNat z35).f3] : List Value) = [.int .i64 x.f0, .int .i64 x.f1, .int .i64 x.f2, .int .i64 x.f3] := by
    have hx2 : l.getD i z35 = x := hx
    rw [Int.toNat_natCast, hx2]
  have huy : ([.int .i64 (l.getD ((k : Nat) : Int).toNat z35).f0, .int .i64 (l.getD ((k : Nat) : Int).toNat z35).f1, .int .i64 (l.getD ((k : Nat) : Int).toNat z35).f2, .int .i64 (l.getD ((k : Nat) : Int).toNat z35).f3] : List Value) = [.int .i64 y.f0, .int .i64 y.f1, .int .i64 y.f2, .int .i64 y.f3] := by
    have hx2 : l.getD k z35 = y := hy
    rw [Int.toNat_natCast, hx2]
  rw [show wI wd ht l (k : Int) = wtF wd ht y by unfold wI; rw [Int.toNat_natCast, hy], show wI wd ht l (i : Int) = wtF wd ht x by unfold wI; rw [Int.toNat_natCast, hx]]
  let Rr : Ending → World → Prop := fun e w' => e = .returned (.int .i64 (cmpI (wtF wd ht y) (wtF wd ht x))) ∧ Below w.heap.size w w'
  rw [show (#[Value.int .i64 (i : Int), .int .i64 (k : Int)] ++ #[Value.pointer (some ⟨gc, 0, none⟩), .pointer (some ⟨gh, 0, none⟩)] : Array Value) = [Value.int .i64 (i : Int), .int .i64 (k : Int), .pointer (some ⟨gc, 0, none⟩), .pointer (some ⟨gh, 0, none⟩)].toArray from by simp]
  refine enterW (args := [.int .i64 (i : Int), .int .i64 (k : Int), .pointer (some ⟨gc, 0, none⟩), .pointer (some ⟨gh, 0, none⟩)]) [(fun W => Cells W ⟨gc, 0, none⟩ [.int .i64 wd, .int .i64 ht, .slice A0 cs.length c0]), (fun W => Cells W ⟨gh, 0, none⟩ [.slice (some ad) l.length c1]), (fun W => Kd.C (Kd.int .i64) W A0 cs.length cs), (fun W => Kd.C k35 W (some ad) l.length l)] (fun p hp W hb => by
    rcases List.mem_cons.1 hp with rfl | hp
    · have := Box_cells (w := W) (g := gc) (T' := 26) (cs := [.int .i64 wd, .int .i64 ht, .slice A0 cs.length c0]) (by rw [hb.block gc hltC]; exact hbC) 0
      simpa using this
    rcases List.mem_cons.1 hp with rfl | hp
    · have := Box_cells (w := W) (g := gh) (T' := 27) (cs := [.slice (some ad) l.length c1]) (by rw [hb.block gh hltH]; exact hbH) 0
      simpa using this
    rcases List.mem_cons.1 hp with rfl | hp
    · exact Kd.C_below hrC hb
    · rw [List.mem_singleton.1 hp]; exact Kd.C_below hrH hb) Try.func84 rfl rfl ?_
  show Cj Try.prog _ _ _ (bodyPost Try.prog Try.f84 Rr) _ _ _
  repeat (first
    | (apply gateO; first
      | refine Jl.yd (Y.mv rfl rfl) rfl rfl rfl ?_
      | refine Jl.yd (Y.asg rfl rfl) rfl rfl rfl ?_
      | refine Jl.yd (Y.ext rfl rfl rfl) rfl rfl rfl ?_
      | refine Jl.yd (Y.pickT rfl rfl rfl) rfl rfl rfl ?_
      | refine Jl.yd (Y.pickF rfl rfl rfl) rfl rfl rfl ?_
      | refine Jl.off rfl rfl rfl ?_
      | refine Jl.yd (Y.cmpF rfl rfl rfl rfl (by omega)) rfl rfl rfl ?_
      | refine Jl.yd (Y.cmpT rfl rfl rfl rfl (by omega)) rfl rfl rfl ?_
      | refine Jl.yd (Y.neqB rfl rfl rfl Try.underlying4) rfl rfl rfl ?_
      | refine Jl.yd (Y.cmp rfl rfl rfl rfl) rfl rfl rfl ?_
      | refine Jl.yd (Y.not rfl rfl) rfl rfl rfl ?_
      | refine Jl.yd (Y.arithN rfl rfl rfl rfl (by omega)) rfl rfl rfl ?_
      | refine Jl.yd (Y.arith64 rfl rfl rfl rfl) rfl rfl rfl ?_
      | refine Jl.yd (Y.loadF (us := [.int .i64 wd, .int .i64 ht, .slice A0 cs.length c0]) rfl rfl agg26 (by repeat (first | exact memH | refine memT ?_)) (by rfl)) rfl rfl rfl ?_
      | refine Jl.yd (Y.loadF1 (us := [.slice (some ad) l.length c1]) rfl rfl sc27 (by repeat (first | exact memH | refine memT ?_)) rfl) rfl rfl rfl ?_
      | refine Jl.yd (Y.idx rfl rfl rfl el27 (by omega) (by omega)) rfl rfl rfl ?_
      | refine Jl.yd (Y.loadK z35 [.int .i64 y.f0, .int .i64 y.f1, .int .i64 y.f2, .int .i64 y.f3] rfl rfl agg35 (by repeat (first | exact memH | refine memT ?_)) ((k : Int)) (by omega) (by omega) (by rfl) (fun w cs h => (k35_open h).trans huy) (by rfl)) rfl rfl rfl ?_
      | refine Jl.yd (Y.loadK z35 [.int .i64 x.f0, .int .i64 x.f1, .int .i64 x.f2, .int .i64 x.f3] rfl rfl agg35 (by repeat (first | exact memH | refine memT ?_)) ((i : Int)) (by omega) (by omega) (by rfl) (fun w cs h => (k35_open h).trans hux) (by rfl)) rfl rfl rfl ?_
      | refine Jl.call1 (v := .int .i64 (wtF wd ht y)) rfl rfl rfl rfl en86 rfl (fun w hW => by with_reducible exact fw hg hyo A0 c0 w (hW.fact (p := (fun W => Kd.C (Kd.int .i64) W A0 cs.length cs)) (by repeat (first | exact memH | refine memT ?_))) hc) ?_
      | refine Jl.call1 (v := .int .i64 (wtF wd ht x)) rfl rfl rfl rfl en86 rfl (fun w hW => by with_reducible exact fw hg hxo A0 c0 w (hW.fact (p := (fun W => Kd.C (Kd.int .i64) W A0 cs.length cs)) (by repeat (first | exact memH | refine memT ?_))) hc) ?_
      | refine Jl.call1 (v := .int .i64 (cmpI (wtF wd ht y) (wtF wd ht x))) rfl rfl rfl rfl en85 rfl (fun w hW => (cmp_Compare_int.calls (wtF wd ht y) (wtF wd ht x) (cmpI (wtF wd ht y) (wtF wd ht x)) w (cmp_f _ _)).mono (fun _ _ h => ⟨h.1, h.2.below⟩)) ?_
      | refine Jl.splitG rfl rfl (fun h => ?_) (fun h => ?_))
    | (apply gateE; first
      | refine Jl.nil (Ej.go ?_ (fun _ _ h => h))
      | (refine Jl.nil (Ej.back (fun _ _ h => h) (by repeat (first | exact .refl | apply DropTo.tail)) ?_); repeat (first | exact trivial | refine ⟨rfl, ?_⟩)))
    | (apply gateC; first
      | refine Cj.regionD rfl (mkD [0, 1, 2, 3, 4, 5, 6, 7, 8, 9, 13] []) [] [0, 1, 2, 3, 4, 6, 7, 8, 9, 10, 5, 11, 12, 13] mixed (by decide +kernel) ?_
      | refine Cj.ret rfl (Ej.out1 (P := Try.prog) (fn := Try.f84) (R := Rr) (fun _ _ h => h) rfl rfl (fun w' hW => ⟨rfl, hW.below⟩))
      | refine Cj.condF rfl rfl (Cj.skip rfl (Ej.go ?_ (fun _ _ h => h)))
      | (refine Cj.condF rfl rfl (Cj.skip rfl (Ej.back (fun _ _ h => h) (by repeat (first | exact .refl | apply DropTo.tail)) ?_)); repeat (first | exact trivial | refine ⟨rfl, ?_⟩))
      | refine Cj.condF rfl rfl ?_
      | refine Cj.condT rfl rfl ?_
      | refine Cj.exit rfl (Ej.go ?_ (fun _ _ h => h))
      | refine Cj.cond rfl rfl (fun h => ?_) (fun h => ?_)
      | refine Cj.skip rfl (Ej.go ?_ (fun _ _ h => h))
      | (refine Cj.skip rfl (Ej.back (fun _ _ h => h) (by repeat (first | exact .refl | apply DropTo.tail)) ?_); repeat (first | exact trivial | refine ⟨rfl, ?_⟩))
      | refine Cj.seq rfl ?_
      | refine Cj.region rfl ?_))
set_option maxHeartbeats 2000000 in
theorem sort_ {f : Int → Int} (lb : Array Value) (n : Nat) (hn : n ≤ 12) (w : World) (A : Nat → Prop) (h c : Nat) (hA : (Go.Proofs.YtkglpfdoefdhdaaW.SL.Item.row KI 3 0 (.slice (some ⟨h, 0, none⟩) (rng n).length c) (rng n)).p w A)
    (hC : ∀ W, Aft A w W → ∀ i k : Nat, i < n → k < n → Calls Try.prog 84 (#[.int .i64 (i : Int), .int .i64 (k : Int)] ++ lb) W fun e w' => e = .returned (.int .i64 (cmpI (f (k : Int)) (f (i : Int)))) ∧ Below W.heap.size W w') :
    Calls Try.prog 83 #[.slice (some ⟨h, 0, none⟩) (rng n).length c, .func (.func 84) #[] lb] w fun e w' => e = .returned (.tuple #[]) ∧ ∃ A', (Go.Proofs.YtkglpfdoefdhdaaW.SL.Item.row KI 3 0 (.slice (some ⟨h, 0, none⟩) (rng n).length c) (ordD f n)).p w' A' ∧ (∀ k, A' k → k < w.heap.size → A k) ∧ Aft A w w' := by
  have h0 := rowI.1 hA
  have hlm : ((rng n).map MO.encI).length = (rng n).length := List.length_map ..
  rw [← hlm] at h0 ⊢
  refine (Ins165.sortS 84 lb en84 (fun u v => cmpI (f (MO.decI v)) (f (MO.decI u))) w A h c ((rng n).map MO.encI) h0 (fun W hW u v hu hv => ?_) (by rw [hlm, rng_len]; exact hn)).mono ?_
  · obtain ⟨a, ha, rfl⟩ := List.mem_map.1 hu
    obtain ⟨b, hb, rfl⟩ := List.mem_map.1 hv
    obtain ⟨i, hi, rfl⟩ := rng_mem ha
    obtain ⟨k, hk, rfl⟩ := rng_mem hb
    have := hC W hW i k hi hk
    simpa [MO.decI, MO.encI, hd1] using this
  · rintro e w' ⟨rfl, A', h1, h2, h3⟩
    refine ⟨rfl, A', rowI.2 ?_, h2, h3⟩
    rw [isort_map MO.encI (lt := ltD f) (lt' := Ins165.ltc (fun u v => cmpI (f (MO.decI v)) (f (MO.decI u)))) (fun x y _ _ => cmp_lt _ _)] at h1
    exact h1
theorem wsum_idx (wd ht : Int) (l : List S35) : ∀ n, n ≤ l.length → sumI ((rng n).map (wI wd ht l)) = wsum wd ht (l.take n)
  | 0, _ => rfl
  | n + 1, h => by
    rw [rng_succ, List.map_append, sumI_app, wsum_idx wd ht l n (by omega), wsum_take (by omega)]
    simp [sumI, wI]
theorem wsum_ord (wd ht : Int) (l : List S35) : wsum wd ht l = sumI ((ordD (wI wd ht l) l.length).map (wI wd ht l)) := by
  have := wsum_idx wd ht l l.length (Nat.le_refl _)
  rw [List.take_length] at this
  rw [← this]
  exact (sumI_perm (List.Perm.map _ (ordD_perm _ _))).symm
theorem good_oks {wd ht : Int} {cs : List Int} {l : List S35} (hg : goodF wd ht cs l = true) : goodC wd ht cs = true ∧ l.length ≤ 12 ∧ (∀ i, i < l.length → okF wd ht (nth l i z35) = true) ∧ ∀ x ∈ l, okF wd ht x = true := by
  obtain ⟨h1, h2, h3⟩ := goodF_at hg
  have h4 : ∀ i, i < l.length → okF wd ht (nth l i z35) = true := fun i hi => by
    have := h3 i hi
    unfold flawAt at this
    rw [Bool.and_eq_true] at this
    exact this.1
  refine ⟨h1, h2, h4, fun x hx => ?_⟩
  obtain ⟨i, hi, rfl⟩ := List.mem_iff_getElem.1 hx
  have := h4 i hi
  rw [nth_get hi] at this
  exact this
theorem cutI {w : World} {A : Nat → Prop} {g c n q : Nat} {xs : List Int} (h : (Go.Proofs.YtkglpfdoefdhdaaW.SL.Item.row KI 3 0 (.slice (some ⟨g, 0, none⟩) n c) xs).p w A) (hq : q ≤ xs.length) : (Go.Proofs.YtkglpfdoefdhdaaW.SL.Item.row KI 3 0 (.slice (some ⟨g, 0, none⟩) (xs.take q).length c) (xs.take q)).p w A := by
  obtain ⟨hr, hlt⟩ := h
  obtain ⟨h1, h2, h3⟩ := row_I.1 hr
  have hl : (xs.take q).length = q := by rw [List.length_take]; omega
  rcases h3 with ⟨h3, _⟩ | ⟨g', cap', cur, h4, h5, h6, h7, h8, h9, h10⟩
  · cases h3
  simp only [Value.slice.injEq, Option.some.injEq, Addr.mk.injEq, and_true, true_and] at h4
  obtain ⟨rfl, h4b, rfl⟩ := h4
  refine ⟨row_I.2 ⟨h1, by simp, .inr ⟨g, c, cur, by rw [hl], h5, h6, by rw [hl]; omega, h8, h9, ?_⟩⟩, hlt⟩
  rw [hl, Nat.mul_one]
  rw [Nat.mul_one] at h10
  have := congrArg (List.take q) h10
  rw [List.take_take, Nat.min_eq_left hq, ← List.map_take] at this
  exact this
theorem sumI_nn (f : Int → Int) : ∀ l : List Int, (∀ a ∈ l, 0 ≤ f a) → 0 ≤ sumI (l.map f)
  | [], _ => Int.le_refl _
  | a :: l, h => by
    have h1 := h a List.mem_cons_self
    have h2 := sumI_nn f l (fun b hb => h b (List.mem_cons_of_mem _ hb))
    show 0 ≤ f a + sumI (l.map f)
    omega
theorem sortQ {A : Option Addr} {S : Nat → Prop} {xs : List Int} {c q : Nat} {w : World} (hq : xs.length = q) (h : (Go.Proofs.YtkglpfdoefdhdaaW.SL.Item.row KI 3 0 (.slice A q c) xs).p w S) (hs : q ≤ 1048576) :
    Calls Try.prog 89 #[.slice A q c] w fun e' w' => e' = .returned (.tuple #[]) ∧ ∃ S', (Go.Proofs.YtkglpfdoefdhdaaW.SL.Item.row KI 3 0 (.slice A q c) (sortI xs)).p w' S' ∧ (∀ k, S' k → k < w.heap.size → S k) ∧ Aft S w w' := by
  subst hq
  have := sort_I Try.laySort h (by omega)
  rw [sortI_len] at this
  exact this
set_option maxHeartbeats 4000000 in
/-- FewestRepairs at flaws that are none. -/
theorem friNo {wd ht : Int} {cs : List Int} {l : List S35} (gd : Int) (A0 : Option Addr) (c0 : Nat) (A1 : Option Addr) (c1 : Nat) (w : World) (hrC : Kd.C (Kd.int .i64) w A0 cs.length cs) (hc : cs.length ≤ c0) (hrH : Kd.C k35 w A1 l.length l) (hcl : l.length ≤ c1) (hlb : l.length ≤ 1048576) (hg : goodF wd ht cs l = false) : Calls Try.prog 14 #[.agg #[.int .i64 wd, .int .i64 ht, .slice A0 cs.length c0], .slice A1 l.length c1, .int .i64 gd] w fun e w' => ∃ v, e = .returned (.tuple #[v, .bool false]) ∧ (Kd.int .i64).R 3 w' w.heap.size (fun _ => True) v [] ∧ Below w.heap.size w w' := by
  obtain ⟨kk, hk⟩ := (iFlaws wd ht cs l hlb).rounds
  rw [hg] at hk
  let Rr : Ending → World → Prop := fun e w' => ∃ v, e = .returned (.tuple #[v, .bool false]) ∧ (Kd.int .i64).R 3 w' w.heap.size (fun _ => True) v [] ∧ Below w.heap.size w w'
  refine enterW (args := [.agg #[.int .i64 wd, .int .i64 ht, .slice A0 cs.length c0], .slice A1 l.length c1, .int .i64 gd]) [(fun W => Kd.C (Kd.int .i64) W A0 cs.length cs), (fun W => Kd.C k35 W A1 l.length l)] (fun p hp W hb => by
    rcases List.mem_cons.1 hp with rfl | hp
    · exact Kd.C_below hrC hb
    · rw [List.mem_singleton.1 hp]; exact Kd.C_below hrH hb) Try.func14 rfl rfl ?_
  show Cj Try.prog _ _ _ (bodyPost Try.prog Try.f14 Rr) _ _ _
  repeat (first
    | (apply gateO; first
      | refine Jl.yd (Y.mv rfl rfl) rfl rfl rfl ?_
      | refine Jl.yd (Y.asg rfl rfl) rfl rfl rfl ?_
      | refine Jl.yd (Y.ext rfl rfl rfl) rfl rfl rfl ?_
      | refine Jl.yd (Y.pickT rfl rfl rfl) rfl rfl rfl ?_
      | refine Jl.yd (Y.pickF rfl rfl rfl) rfl rfl rfl ?_
      | refine Jl.off rfl rfl rfl ?_
      | refine Jl.yd (Y.cmpF rfl rfl rfl rfl (by omega)) rfl rfl rfl ?_
      | refine Jl.yd (Y.cmpT rfl rfl rfl rfl (by omega)) rfl rfl rfl ?_
      | refine Jl.yd (Y.neqB rfl rfl rfl Try.underlying4) rfl rfl rfl ?_
      | refine Jl.yd (Y.cmp rfl rfl rfl rfl) rfl rfl rfl ?_
      | refine Jl.yd (Y.not rfl rfl) rfl rfl rfl ?_
      | refine Jl.yd (Y.arithN rfl rfl rfl rfl (by omega)) rfl rfl rfl ?_
      | refine Jl.yd (Y.arith64 rfl rfl rfl rfl) rfl rfl rfl ?_
      | refine Jl.yd (Y.loadA rfl rfl agg26 (by repeat (first | exact .head _ | refine .tail _ ?_)) (by rfl)) rfl rfl rfl ?_
      | refine Jl.yd (Y.load1 rfl rfl sc27 (by repeat (first | exact .head _ | refine .tail _ ?_)) (by rfl)) rfl rfl rfl ?_
      | refine Jl.yd (Y.lenS Try.underlying27 rfl rfl rfl) rfl rfl rfl ?_
      | refine Jl.yd (Y.lenS Try.underlying24 rfl rfl rfl) rfl rfl rfl ?_
      | refine Jl.box (zs := [.int .i64 wd, .int .i64 ht, .slice A0 cs.length c0]) rfl rfl rfl rfl rfl (by rfl) (fun gc => ?_)
      | refine Jl.box (zs := [.slice A1 l.length c1]) rfl rfl rfl rfl rfl (by rfl) (fun gh => ?_)
      | refine Jl.call1 (v := .bool false) rfl rfl rfl rfl en81 rfl (fun w hW => by with_reducible exact impl_AreFlaws.calls kk wd ht A0 c0 cs A1 c1 l false w (hW.fact (p := (fun W => Kd.C (Kd.int .i64) W A0 cs.length cs)) (by repeat (first | exact memH | refine memT ?_))) hc (hW.fact (p := (fun W => Kd.C k35 W A1 l.length l)) (by repeat (first | exact memH | refine memT ?_))) hcl hk) ?_
      | refine Jl.splitG rfl rfl (fun h => ?_) (fun h => ?_))
    | (apply gateE; first
      | refine Jl.nil (Ej.go ?_ (fun _ _ h => h))
      | (refine Jl.nil (Ej.back (fun _ _ h => h) (by repeat (first | exact .refl | apply DropTo.tail)) ?_); repeat (first | exact trivial | refine ⟨rfl, ?_⟩)))
    | (apply gateC; first
      | refine Cj.ret rfl (Ej.out2 (P := Try.prog) (fn := Try.f14) (R := Rr) (fun _ _ h => h) rfl rfl rfl (fun w' hW => ⟨_, rfl, Kd.R_nil _ _ _ _ _, hW.below⟩))
      | refine Cj.condF rfl rfl (Cj.skip rfl (Ej.go ?_ (fun _ _ h => h)))
      | (refine Cj.condF rfl rfl (Cj.skip rfl (Ej.back (fun _ _ h => h) (by repeat (first | exact .refl | apply DropTo.tail)) ?_)); repeat (first | exact trivial | refine ⟨rfl, ?_⟩))
      | refine Cj.condF rfl rfl ?_
      | refine Cj.condT rfl rfl ?_
      | refine Cj.exit rfl (Ej.go ?_ (fun _ _ h => h))
      | refine Cj.cond rfl rfl (fun h => ?_) (fun h => ?_)
      | refine Cj.skip rfl (Ej.go ?_ (fun _ _ h => h))
      | (refine Cj.skip rfl (Ej.back (fun _ _ h => h) (by repeat (first | exact .refl | apply DropTo.tail)) ?_); repeat (first | exact trivial | refine ⟨rfl, ?_⟩))
      | refine Cj.seq rfl ?_
      | refine Cj.region rfl ?_))
set_option maxHeartbeats 4000000 in
/-- FewestRepairs at a grade that is none. -/
theorem friNoG {wd ht : Int} {cs : List Int} {l : List S35} (gd : Int) (A0 : Option Addr) (c0 : Nat) (A1 : Option Addr) (c1 : Nat) (w : World) (hrC : Kd.C (Kd.int .i64) w A0 cs.length cs) (hc : cs.length ≤ c0) (hrH : Kd.C k35 w A1 l.length l) (hcl : l.length ≤ c1) (hlb : l.length ≤ 1048576) (hg : goodF wd ht cs l = true) (hin : decide (1 ≤ gd ∧ gd ≤ 4) = false) : Calls Try.prog 14 #[.agg #[.int .i64 wd, .int .i64 ht, .slice A0 cs.length c0], .slice A1 l.length c1, .int .i64 gd] w fun e w' => ∃ v, e = .returned (.tuple #[v, .bool false]) ∧ (Kd.int .i64).R 3 w' w.heap.size (fun _ => True) v [] ∧ Below w.heap.size w w' := by
  obtain ⟨kk, hk⟩ := (iFlaws wd ht cs l hlb).rounds
  rw [hg] at hk
  let Rr : Ending → World → Prop := fun e w' => ∃ v, e = .returned (.tuple #[v, .bool false]) ∧ (Kd.int .i64).R 3 w' w.heap.size (fun _ => True) v [] ∧ Below w.heap.size w w'
  refine enterW (args := [.agg #[.int .i64 wd, .int .i64 ht, .slice A0 cs.length c0], .slice A1 l.length c1, .int .i64 gd]) [(fun W => Kd.C (Kd.int .i64) W A0 cs.length cs), (fun W => Kd.C k35 W A1 l.length l)] (fun p hp W hb => by
    rcases List.mem_cons.1 hp with rfl | hp
    · exact Kd.C_below hrC hb
    · rw [List.mem_singleton.1 hp]; exact Kd.C_below hrH hb) Try.func14 rfl rfl ?_
  show Cj Try.prog _ _ _ (bodyPost Try.prog Try.f14 Rr) _ _ _
  repeat (first
    | (apply gateO; first
      | refine Jl.yd (Y.mv rfl rfl) rfl rfl rfl ?_
      | refine Jl.yd (Y.asg rfl rfl) rfl rfl rfl ?_
      | refine Jl.yd (Y.ext rfl rfl rfl) rfl rfl rfl ?_
      | refine Jl.yd (Y.pickT rfl rfl rfl) rfl rfl rfl ?_
      | refine Jl.yd (Y.pickF rfl rfl rfl) rfl rfl rfl ?_
      | refine Jl.off rfl rfl rfl ?_
      | refine Jl.yd (Y.cmpF rfl rfl rfl rfl (by omega)) rfl rfl rfl ?_
      | refine Jl.yd (Y.cmpT rfl rfl rfl rfl (by omega)) rfl rfl rfl ?_
      | refine Jl.yd (Y.neqB rfl rfl rfl Try.underlying4) rfl rfl rfl ?_
      | refine Jl.yd (Y.cmp rfl rfl rfl rfl) rfl rfl rfl ?_
      | refine Jl.yd (Y.not rfl rfl) rfl rfl rfl ?_
      | refine Jl.yd (Y.arithN rfl rfl rfl rfl (by omega)) rfl rfl rfl ?_
      | refine Jl.yd (Y.arith64 rfl rfl rfl rfl) rfl rfl rfl ?_
      | refine Jl.yd (Y.loadA rfl rfl agg26 (by repeat (first | exact .head _ | refine .tail _ ?_)) (by rfl)) rfl rfl rfl ?_
      | refine Jl.yd (Y.load1 rfl rfl sc27 (by repeat (first | exact .head _ | refine .tail _ ?_)) (by rfl)) rfl rfl rfl ?_
      | refine Jl.yd (Y.lenS Try.underlying27 rfl rfl rfl) rfl rfl rfl ?_
      | refine Jl.yd (Y.lenS Try.underlying24 rfl rfl rfl) rfl rfl rfl ?_
      | refine Jl.box (zs := [.int .i64 wd, .int .i64 ht, .slice A0 cs.length c0]) rfl rfl rfl rfl rfl (by rfl) (fun gc => ?_)
      | refine Jl.box (zs := [.slice A1 l.length c1]) rfl rfl rfl rfl rfl (by rfl) (fun gh => ?_)
      | refine Jl.call1 (v := .bool true) rfl rfl rfl rfl en81 rfl (fun w hW => by with_reducible exact impl_AreFlaws.calls kk wd ht A0 c0 cs A1 c1 l true w (hW.fact (p := (fun W => Kd.C (Kd.int .i64) W A0 cs.length cs)) (by repeat (first | exact memH | refine memT ?_))) hc (hW.fact (p := (fun W => Kd.C k35 W A1 l.length l)) (by repeat (first | exact memH | refine memT ?_))) hcl hk) ?_
      | refine Jl.call1 (v := .bool false) rfl rfl rfl rfl en82 rfl (fun w hW => by with_reducible exact inG hin w) ?_
      | refine Jl.splitG rfl rfl (fun h => ?_) (fun h => ?_))
    | (apply gateE; first
      | refine Jl.nil (Ej.go ?_ (fun _ _ h => h))
      | (refine Jl.nil (Ej.back (fun _ _ h => h) (by repeat (first | exact .refl | apply DropTo.tail)) ?_); repeat (first | exact trivial | refine ⟨rfl, ?_⟩)))
    | (apply gateC; first
      | refine Cj.ret rfl (Ej.out2 (P := Try.prog) (fn := Try.f14) (R := Rr) (fun _ _ h => h) rfl rfl rfl (fun w' hW => ⟨_, rfl, Kd.R_nil _ _ _ _ _, hW.below⟩))
      | refine Cj.condF rfl rfl (Cj.skip rfl (Ej.go ?_ (fun _ _ h => h)))
      | (refine Cj.condF rfl rfl (Cj.skip rfl (Ej.back (fun _ _ h => h) (by repeat (first | exact .refl | apply DropTo.tail)) ?_)); repeat (first | exact trivial | refine ⟨rfl, ?_⟩))
      | refine Cj.condF rfl rfl ?_
      | refine Cj.condT rfl rfl ?_
      | refine Cj.exit rfl (Ej.go ?_ (fun _ _ h => h))
      | refine Cj.cond rfl rfl (fun h => ?_) (fun h => ?_)
      | refine Cj.skip rfl (Ej.go ?_ (fun _ _ h => h))
      | (refine Cj.skip rfl (Ej.back (fun _ _ h => h) (by repeat (first | exact .refl | apply DropTo.tail)) ?_); repeat (first | exact trivial | refine ⟨rfl, ?_⟩))
      | refine Cj.seq rfl ?_
      | refine Cj.region rfl ?_))
set_option maxHeartbeats 16000000 in
/-- FewestRepairs. -/
theorem friYes {wd ht : Int} {cs : List Int} {l : List S35} (gd : Int) (A0 : Option Addr) (c0 : Nat) (A1 : Option Addr) (c1 : Nat) (w : World) (hrC : Kd.C (Kd.int .i64) w A0 cs.length cs) (hc : cs.length ≤ c0) (hrH : Kd.C k35 w A1 l.length l) (hcl : l.length ≤ c1) (hlb : l.length ≤ 1048576) (hg : goodF wd ht cs l = true) (hin : decide (1 ≤ gd ∧ gd ≤ 4) = true) : Calls Try.prog 14 #[.agg #[.int .i64 wd, .int .i64 ht, .slice A0 cs.length c0], .slice A1 l.length c1, .int .i64 gd] w fun e w' => ∃ v, e = .returned (.tuple #[v, .bool true]) ∧ (Kd.int .i64).R 3 w' w.heap.size (fun _ => True) v (sortI ((ordD (wI wd ht l) l.length).take (needD (wI wd ht l) gd (wsum wd ht l) (ordD (wI wd ht l) l.length)))) ∧ Below w.heap.size w w' := by
  obtain ⟨kk, hk⟩ := (iFlaws wd ht cs l hlb).rounds
  rw [hg] at hk
  obtain ⟨hg', hl12, hoi, ho⟩ := good_oks hg
  have hin2 := of_decide_eq_true hin
  have hwb := wsum_b ho
  have clo' := fun A0 c0 A1 c1 gc gh w h1 h2 h3 h4 h5 i k h6 h7 h8 => @clo wd ht cs l hg' hoi A0 c0 A1 c1 gc gh w h1 h2 h3 h4 h5 i k h6 h7 h8
  have hws := wsum_ord wd ht l
  have hfw : ∀ i : Nat, i < l.length → wI wd ht l (i : Int) = wtF wd ht (nth l i z35) := fun i _ => by unfold wI; rw [Int.toNat_natCast]
  obtain ⟨f, hf⟩ : ∃ f, wI wd ht l = f := ⟨_, rfl⟩
  rw [hf] at clo' hws hfw ⊢
  let Rr : Ending → World → Prop := fun e w' => ∃ v, e = .returned (.tuple #[v, .bool true]) ∧ (Kd.int .i64).R 3 w' w.heap.size (fun _ => True) v (sortI ((ordD f l.length).take (needD f gd (wsum wd ht l) (ordD f l.length)))) ∧ Below w.heap.size w w'
  refine enterW (args := [.agg #[.int .i64 wd, .int .i64 ht, .slice A0 cs.length c0], .slice A1 l.length c1, .int .i64 gd]) [(fun W => Kd.C (Kd.int .i64) W A0 cs.length cs), (fun W => Kd.C k35 W A1 l.length l)] (fun p hp W hb => by
    rcases List.mem_cons.1 hp with rfl | hp
    · exact Kd.C_below hrC hb
    · rw [List.mem_singleton.1 hp]; exact Kd.C_below hrH hb) Try.func14 rfl rfl ?_
  show Cj Try.prog _ _ _ (bodyPost Try.prog Try.f14 Rr) _ _ _
  repeat (first
    | (apply gateO; first
      | refine Jl.yd (Y.mv rfl rfl) rfl rfl rfl ?_
      | refine Jl.yd (Y.asg rfl rfl) rfl rfl rfl ?_
      | refine Jl.yd (Y.ext rfl rfl rfl) rfl rfl rfl ?_
      | refine Jl.yd (Y.pickT rfl rfl rfl) rfl rfl rfl ?_
      | refine Jl.yd (Y.pickF rfl rfl rfl) rfl rfl rfl ?_
      | refine Jl.off rfl rfl rfl ?_
      | refine Jl.yd (Y.cmpF rfl rfl rfl rfl (by omega)) rfl rfl rfl ?_
      | refine Jl.yd (Y.cmpT rfl rfl rfl rfl (by omega)) rfl rfl rfl ?_
      | refine Jl.yd (Y.neqB rfl rfl rfl Try.underlying4) rfl rfl rfl ?_
      | refine Jl.yd (Y.cmp rfl rfl rfl rfl) rfl rfl rfl ?_
      | refine Jl.yd (Y.not rfl rfl) rfl rfl rfl ?_
      | refine Jl.yd (Y.arithN rfl rfl rfl rfl (by omega)) rfl rfl rfl ?_
      | refine Jl.yd (Y.arith64 rfl rfl rfl rfl) rfl rfl rfl ?_
      | refine Jl.yd (Y.loadA rfl rfl agg26 (by repeat (first | exact .head _ | refine .tail _ ?_)) (by rfl)) rfl rfl rfl ?_
      | refine Jl.yd (Y.load1 rfl rfl sc27 (by repeat (first | exact .head _ | refine .tail _ ?_)) (by rfl)) rfl rfl rfl ?_
      | refine Jl.yd (Y.lenS Try.underlying27 rfl rfl rfl) rfl rfl rfl ?_
      | refine Jl.yd (Y.lenS Try.underlying24 rfl rfl rfl) rfl rfl rfl ?_
      | refine Jl.box (zs := [.int .i64 wd, .int .i64 ht, .slice A0 cs.length c0]) rfl rfl rfl rfl rfl (by rfl) (fun gc => ?_)
      | refine Jl.box (zs := [.slice A1 l.length c1]) rfl rfl rfl rfl rfl (by rfl) (fun gh => ?_)
      | refine Jl.call1 (v := .bool true) rfl rfl rfl rfl en81 rfl (fun w hW => by with_reducible exact impl_AreFlaws.calls kk wd ht A0 c0 cs A1 c1 l true w (hW.fact (p := (fun W => Kd.C (Kd.int .i64) W A0 cs.length cs)) (by repeat (first | exact memH | refine memT ?_))) hc (hW.fact (p := (fun W => Kd.C k35 W A1 l.length l)) (by repeat (first | exact memH | refine memT ?_))) hcl hk) ?_
      | refine Jl.call1 (v := .bool true) rfl rfl rfl rfl en82 rfl (fun w hW => by with_reducible exact inG hin w) ?_
      | refine Jl.lit0 KI rfl rfl rfl rfl el24 (fun g0 => ?_)
      | refine Jl.splitG rfl rfl (fun h => ?_) (fun h => ?_))
    | (apply gateE; first
      | refine Jl.nil (Ej.go ?_ (fun _ _ h => h))
      | (refine Jl.nil (Ej.back (fun _ _ h => h) (by repeat (first | exact .refl | apply DropTo.tail)) ?_); repeat (first | exact trivial | refine ⟨rfl, ?_⟩)))
    | (apply gateC; first
      | refine Cj.block rfl ?_
      | refine Cj.condF rfl rfl (Cj.skip rfl (Ej.go ?_ (fun _ _ h => h)))
      | (refine Cj.condF rfl rfl (Cj.skip rfl (Ej.back (fun _ _ h => h) (by repeat (first | exact .refl | apply DropTo.tail)) ?_)); repeat (first | exact trivial | refine ⟨rfl, ?_⟩))
      | refine Cj.condF rfl rfl ?_
      | refine Cj.condT rfl rfl ?_
      | refine Cj.exit rfl (Ej.go ?_ (fun _ _ h => h))
      | refine Cj.cond rfl rfl (fun h => ?_) (fun h => ?_)
      | refine Cj.skip rfl (Ej.go ?_ (fun _ _ h => h))
      | (refine Cj.skip rfl (Ej.back (fun _ _ h => h) (by repeat (first | exact .refl | apply DropTo.tail)) ?_); repeat (first | exact trivial | refine ⟨rfl, ?_⟩))
      | refine Cj.seq rfl ?_
      | refine Cj.region rfl ?_))
  refine Cj.loopP (ι := Nat × Option Addr × Nat) (fun q => q.1 ≤ l.length ∧ (q.1 = 0 → q.2.1 = some ⟨g0, 0, none⟩) ∧ (rng q.1).length ≤ q.2.2) (fun q => [(2, .int .i64 gd), (3, .pointer (some ⟨gc, 0, none⟩)), (4, .pointer (some ⟨gh, 0, none⟩)), (8, .slice q.2.1 (rng q.1).length q.2.2), (24, .int .i64 (l.length : Int)), (25, .int .i64 (q.1 : Int))]) (fun q => [.row KI 3 0 (.slice q.2.1 (rng q.1).length q.2.2) (rng q.1), .box gc 26 [.int .i64 wd, .int .i64 ht, .slice A0 cs.length c0], .box gh 27 [.slice A1 l.length c1]]) (fun _ => [(fun W => Kd.C (Kd.int .i64) W A0 cs.length cs), (fun W => Kd.C k35 W A1 l.length l)]) (fun q => l.length - q.1) rfl (0, some ⟨g0, 0, none⟩, 0) ⟨Nat.zero_le _, fun _ => rfl, Nat.le_refl _⟩ ⟨rfl, rfl, rfl, rfl, rfl, rfl, trivial⟩ (by repeat (first | exact .nil | refine Pick.cons (by repeat (first | exact .z | apply OutAt.s)) ?_)) (fun p hp => hp) (fun q hq => ?_)
  obtain ⟨i, A, c⟩ := q
  dsimp only at hq ⊢
  obtain ⟨hi, hA0, hic⟩ := hq
  by_cases hlt : i < l.length
  · repeat (first
    | (apply gateO; first
      | refine Jl.yd (Y.mv rfl rfl) rfl rfl rfl ?_
      | refine Jl.yd (Y.asg rfl rfl) rfl rfl rfl ?_
      | refine Jl.yd (Y.ext rfl rfl rfl) rfl rfl rfl ?_
      | refine Jl.yd (Y.pickT rfl rfl rfl) rfl rfl rfl ?_
      | refine Jl.yd (Y.pickF rfl rfl rfl) rfl rfl rfl ?_
      | refine Jl.off rfl rfl rfl ?_
      | refine Jl.yd (Y.cmpF rfl rfl rfl rfl (by omega)) rfl rfl rfl ?_
      | refine Jl.yd (Y.cmpT rfl rfl rfl rfl (by omega)) rfl rfl rfl ?_
      | refine Jl.yd (Y.neqB rfl rfl rfl Try.underlying4) rfl rfl rfl ?_
      | refine Jl.yd (Y.cmp rfl rfl rfl rfl) rfl rfl rfl ?_
      | refine Jl.yd (Y.not rfl rfl) rfl rfl rfl ?_
      | refine Jl.yd (Y.arithN rfl rfl rfl rfl (by omega)) rfl rfl rfl ?_
      | refine Jl.yd (Y.arith64 rfl rfl rfl rfl) rfl rfl rfl ?_
      | refine Jl.yd (Y.loadA rfl rfl agg26 (by repeat (first | exact .head _ | refine .tail _ ?_)) (by rfl)) rfl rfl rfl ?_
      | refine Jl.yd (Y.load1 rfl rfl sc27 (by repeat (first | exact .head _ | refine .tail _ ?_)) (by rfl)) rfl rfl rfl ?_
      | refine Jl.yd (Y.lenS Try.underlying27 rfl rfl rfl) rfl rfl rfl ?_
      | refine Jl.yd (Y.lenS Try.underlying24 rfl rfl rfl) rfl rfl rfl ?_
      | refine Jl.lit1 rfl rfl rfl rfl rfl el24 zero3 rfl (fun g1 => ?_)
      | refine Jl.app (dk := KI) (xs := rng i) (i : Int) (fun _ => False) rfl rfl rfl rfl rfl rfl ap24 (by repeat (first | exact .head _ | refine .tail _ ?_)) rfl (fun w => rfl) (fun u hu => by rw [List.mem_singleton.1 hu]; rfl) (by repeat (first | exact .z | apply OutAt.s)) (by rw [rng_len]; omega) (by rw [rng_len]; omega) (fun A9 c9 h9 => ?_)
      | refine Jl.splitG rfl rfl (fun h => ?_) (fun h => ?_))
    | (apply gateE; first
      | refine Jl.nil (Ej.go ?_ (fun _ _ h => h))
      | (refine Jl.nil (Ej.back (fun _ _ h => h) (by repeat (first | exact .refl | apply DropTo.tail)) ?_); repeat (first | exact trivial | refine ⟨rfl, ?_⟩)))
    | (apply gateC; first
      | refine Cj.block rfl ?_
      | refine Cj.condF rfl rfl (Cj.skip rfl (Ej.go ?_ (fun _ _ h => h)))
      | (refine Cj.condF rfl rfl (Cj.skip rfl (Ej.back (fun _ _ h => h) (by repeat (first | exact .refl | apply DropTo.tail)) ?_)); repeat (first | exact trivial | refine ⟨rfl, ?_⟩))
      | refine Cj.condF rfl rfl ?_
      | refine Cj.condT rfl rfl ?_
      | refine Cj.exit rfl (Ej.go ?_ (fun _ _ h => h))
      | refine Cj.cond rfl rfl (fun h => ?_) (fun h => ?_)
      | refine Cj.skip rfl (Ej.go ?_ (fun _ _ h => h))
      | (refine Cj.skip rfl (Ej.back (fun _ _ h => h) (by repeat (first | exact .refl | apply DropTo.tail)) ?_); repeat (first | exact trivial | refine ⟨rfl, ?_⟩))
      | refine Cj.seq rfl ?_
      | refine Cj.region rfl ?_))
    refine Jl.nil (Ej.cutP (ι := Nat × Option Addr × Nat) _ _ _ _ (fun _ _ h => h) (i + 1, A9, c9) ⟨⟨by dsimp only; omega, fun h => absurd h (by dsimp only; omega), by dsimp only; rw [rng_succ, List.length_append]; exact h9⟩, by dsimp only; omega⟩ ⟨rfl, rfl, rfl, by dsimp only; rw [rng_succ]; rfl, rfl, rfl, trivial⟩ (by dsimp only; rw [rng_succ]; exact (by repeat (first | exact .nil | refine Pick.cons (by repeat (first | exact .z | apply OutAt.s)) ?_))) (fun p hp => hp))
  · obtain rfl : i = l.length := by omega
    refine Cj.ws (ι := Nat) (fun hd => A = some ⟨hd, 0, none⟩) (fun _ => [.row KI 3 0 (.slice A (rng l.length).length c) (rng l.length), .box gc 26 [.int .i64 wd, .int .i64 ht, .slice A0 cs.length c0], .box gh 27 [.slice A1 l.length c1]]) (fun _ => [(fun W => Kd.C (Kd.int .i64) W A0 cs.length cs), (fun W => Kd.C k35 W A1 l.length l)]) (fun w' hW => by
      by_cases h0 : l.length = 0
      · exact ⟨g0, hA0 h0, hW⟩
      obtain ⟨S, hR, _⟩ := hW.item (i := .row KI 3 0 (.slice A (rng l.length).length c) (rng l.length)) memH
      rcases row_form hR with ⟨c, e, e0⟩ | ⟨hd, c, e⟩
      · have := rng_len l.length; rw [e0] at this; exact absurd this.symm h0
      · injection e with e1
        exact ⟨hd, e1, hW⟩) (fun hd hA => ?_)
    subst hA
    have hol := ordD_len f l.length
    have hom : ∀ a ∈ ordD f l.length, ∃ i : Nat, i < l.length ∧ a = (i : Int) := fun a ha => ordD_mem f ha
    have hrl := rng_len l.length
    repeat (first
    | (apply gateO; first
      | refine Jl.yd (Y.mv rfl rfl) rfl rfl rfl ?_
      | refine Jl.yd (Y.asg rfl rfl) rfl rfl rfl ?_
      | refine Jl.yd (Y.ext rfl rfl rfl) rfl rfl rfl ?_
      | refine Jl.yd (Y.pickT rfl rfl rfl) rfl rfl rfl ?_
      | refine Jl.yd (Y.pickF rfl rfl rfl) rfl rfl rfl ?_
      | refine Jl.off rfl rfl rfl ?_
      | refine Jl.yd (Y.cmpF rfl rfl rfl rfl (by omega)) rfl rfl rfl ?_
      | refine Jl.yd (Y.cmpT rfl rfl rfl rfl (by omega)) rfl rfl rfl ?_
      | refine Jl.yd (Y.neqB rfl rfl rfl Try.underlying4) rfl rfl rfl ?_
      | refine Jl.yd (Y.cmp rfl rfl rfl rfl) rfl rfl rfl ?_
      | refine Jl.yd (Y.not rfl rfl) rfl rfl rfl ?_
      | refine Jl.yd (Y.arithN rfl rfl rfl rfl (by omega)) rfl rfl rfl ?_
      | refine Jl.yd (Y.arith64 rfl rfl rfl rfl) rfl rfl rfl ?_
      | refine Jl.yd (Y.loadA rfl rfl agg26 (by repeat (first | exact .head _ | refine .tail _ ?_)) (by rfl)) rfl rfl rfl ?_
      | refine Jl.yd (Y.load1 rfl rfl sc27 (by repeat (first | exact .head _ | refine .tail _ ?_)) (by rfl)) rfl rfl rfl ?_
      | refine Jl.yd (Y.lenS Try.underlying27 rfl rfl rfl) rfl rfl rfl ?_
      | refine Jl.yd (Y.lenS Try.underlying24 rfl rfl rfl) rfl rfl rfl ?_
      | refine Jl.yd (Y.mkFn2 rfl rfl rfl) rfl rfl rfl ?_
      | refine Jl.callX (ι := Unit) (fun _ => True) (fun _ => .tuple #[]) (.row KI 3 0 (.slice (some ⟨hd, 0, none⟩) (rng l.length).length c) (rng l.length)) (fun _ => .row KI 3 0 (.slice (some ⟨hd, 0, none⟩) (rng l.length).length c) (ordD f l.length)) rfl rfl rfl rfl en83 rfl (by repeat (first | exact .z | apply OutAt.s)) (fun w A hA hB => (sort_ (f := f) #[.pointer (some ⟨gc, 0, none⟩), .pointer (some ⟨gh, 0, none⟩)] l.length (by omega) w A hd c hA (fun W hW i k hi hk => clo' A0 c0 A1 c1 gc gh W hc (Box_at (hB W hW) (by repeat (first | exact .head _ | refine .tail _ ?_))) (Box_at (hB W hW) (by repeat (first | exact .head _ | refine .tail _ ?_))) ((hB W hW).fact (p := (fun W => Kd.C (Kd.int .i64) W A0 cs.length cs)) (by repeat (first | exact memH | refine memT ?_))) ((hB W hW).fact (p := (fun W => Kd.C k35 W A1 l.length l)) (by repeat (first | exact memH | refine memT ?_))) i k hi hk hl12)).mono (fun e w' hh => ⟨(), trivial, hh.1, hh.2⟩)) (fun _ _ => ?_)
      | refine Jl.call1 (v := .int .i64 (wsum wd ht l)) rfl rfl rfl rfl en87 rfl (fun w hW => by with_reducible exact fsum hg' ho hl12 A0 c0 A1 c1 w (hW.fact (p := (fun W => Kd.C (Kd.int .i64) W A0 cs.length cs)) (by repeat (first | exact memH | refine memT ?_))) hc (hW.fact (p := (fun W => Kd.C k35 W A1 l.length l)) (by repeat (first | exact memH | refine memT ?_)))) ?_
      | refine Jl.splitG rfl rfl (fun h => ?_) (fun h => ?_))
    | (apply gateE; first
      | refine Jl.nil (Ej.go ?_ (fun _ _ h => h))
      | (refine Jl.nil (Ej.back (fun _ _ h => h) (by repeat (first | exact .refl | apply DropTo.tail)) ?_); repeat (first | exact trivial | refine ⟨rfl, ?_⟩)))
    | (apply gateC; first
      | refine Cj.block rfl ?_
      | refine Cj.condF rfl rfl (Cj.skip rfl (Ej.go ?_ (fun _ _ h => h)))
      | (refine Cj.condF rfl rfl (Cj.skip rfl (Ej.back (fun _ _ h => h) (by repeat (first | exact .refl | apply DropTo.tail)) ?_)); repeat (first | exact trivial | refine ⟨rfl, ?_⟩))
      | refine Cj.condF rfl rfl ?_
      | refine Cj.condT rfl rfl ?_
      | refine Cj.exit rfl (Ej.go ?_ (fun _ _ h => h))
      | refine Cj.cond rfl rfl (fun h => ?_) (fun h => ?_)
      | refine Cj.skip rfl (Ej.go ?_ (fun _ _ h => h))
      | (refine Cj.skip rfl (Ej.back (fun _ _ h => h) (by repeat (first | exact .refl | apply DropTo.tail)) ?_); repeat (first | exact trivial | refine ⟨rfl, ?_⟩))
      | refine Cj.seq rfl ?_
      | refine Cj.region rfl ?_))
    obtain ⟨o, hoo⟩ : ∃ o, ordD f l.length = o := ⟨_, rfl⟩
    rw [hoo] at hws hol hom ⊢
    refine Cj.loopP (ι := Nat × Int) (fun q => q.1 ≤ l.length ∧ needD f gd (wsum wd ht l) o = q.1 + needD f gd q.2 (o.drop q.1) ∧ q.2 = sumI ((o.drop q.1).map f) ∧ 0 ≤ q.2 ∧ q.2 ≤ 2000) (fun q => [(2, .int .i64 gd), (3, .pointer (some ⟨gc, 0, none⟩)), (4, .pointer (some ⟨gh, 0, none⟩)), (8, .slice (some ⟨hd, 0, none⟩) (rng l.length).length c), (10, .int .i64 q.2), (11, .int .i64 (q.1 : Int))]) (fun _ => [.row KI 3 0 (.slice (some ⟨hd, 0, none⟩) (rng l.length).length c) o, .box gc 26 [.int .i64 wd, .int .i64 ht, .slice A0 cs.length c0], .box gh 27 [.slice A1 l.length c1]]) (fun _ => [(fun W => Kd.C (Kd.int .i64) W A0 cs.length cs), (fun W => Kd.C k35 W A1 l.length l)]) (fun q => l.length - q.1) rfl (0, wsum wd ht l) ⟨Nat.zero_le _, by simp, by simpa using hws, by dsimp only; omega, by dsimp only; omega⟩ ⟨rfl, rfl, rfl, rfl, rfl, rfl, trivial⟩ (by repeat (first | exact .nil | refine Pick.cons (by repeat (first | exact .z | apply OutAt.s)) ?_)) (fun p hp => hp) (fun q hq => ?_)
    obtain ⟨q, s⟩ := q
    dsimp only at hq ⊢
    obtain ⟨hq1, hq2, hq3, hs0, hs1⟩ := hq
    by_cases hlt : gd < gr s
    · have hqn : q < o.length := by
        rcases Nat.lt_or_ge q o.length with h | h
        · exact h
        · rw [List.drop_eq_nil_of_le h] at hq3
          have hs : s = 0 := hq3
          rw [hs] at hlt
          have : gr 0 = 1 := rfl
          omega
      obtain ⟨a, ha⟩ : ∃ a, o[q]? = some a := ⟨_, List.getElem?_eq_getElem hqn⟩
      obtain ⟨i, hi, rfl⟩ := hom a (List.mem_of_getElem? ha)
      have hgd : o.getD (((q : Nat) : Int)).toNat 0 = (i : Int) := by rw [Int.toNat_natCast, List.getD_eq_getElem?_getD, ha]; rfl
      obtain ⟨ad, rfl, _⟩ := hrH.2.2 (by omega)
      obtain ⟨y, hy⟩ : ∃ y, nth l i z35 = y := ⟨_, rfl⟩
      have hyo : okF wd ht y = true := hy ▸ hoi i hi
      have hyw := wt_b hyo
      have hfy : f (i : Int) = wtF wd ht y := by rw [hfw i hi, hy]
      have hst := (need_step f hq2 ha).1 hlt
      have hdr : o.drop q = (i : Int) :: o.drop (q + 1) := by
        rw [List.drop_eq_getElem_cons hqn]
        congr 1
        exact (List.getElem?_eq_some_iff.1 ha).2
      have hs2 : s - wtF wd ht y = sumI ((o.drop (q + 1)).map f) := by
        rw [hq3, hdr, List.map_cons, show sumI (f (i : Int) :: (o.drop (q + 1)).map f) = f (i : Int) + sumI ((o.drop (q + 1)).map f) from rfl, hfy]
        omega
      have hnn : 0 ≤ sumI ((o.drop (q + 1)).map f) := sumI_nn f _ (fun a ha => by
        obtain ⟨j, hj, rfl⟩ := hom a (List.mem_of_mem_drop ha)
        rw [hfw j hj]
        have := wt_b (hoi j hj)
        omega)
      rw [hfy] at hst
      have huy : ([.int .i64 (l.getD (o.getD (((q : Nat) : Int)).toNat 0).toNat z35).f0, .int .i64 (l.getD (o.getD (((q : Nat) : Int)).toNat 0).toNat z35).f1, .int .i64 (l.getD (o.getD (((q : Nat) : Int)).toNat 0).toNat z35).f2, .int .i64 (l.getD (o.getD (((q : Nat) : Int)).toNat 0).toNat z35).f3] : List Value) = [.int .i64 y.f0, .int .i64 y.f1, .int .i64 y.f2, .int .i64 y.f3] := by
        have hx2 : l.getD i z35 = y := hy
        rw [hgd, Int.toNat_natCast, hx2]
      repeat (first
          | (apply gateO; first
            | refine Jl.yd (Y.mv rfl rfl) rfl rfl rfl ?_
            | refine Jl.yd (Y.asg rfl rfl) rfl rfl rfl ?_
            | refine Jl.yd (Y.ext rfl rfl rfl) rfl rfl rfl ?_
            | refine Jl.yd (Y.pickT rfl rfl rfl) rfl rfl rfl ?_
            | refine Jl.yd (Y.pickF rfl rfl rfl) rfl rfl rfl ?_
            | refine Jl.off rfl rfl rfl ?_
            | refine Jl.yd (Y.cmpF rfl rfl rfl rfl (by omega)) rfl rfl rfl ?_
            | refine Jl.yd (Y.cmpT rfl rfl rfl rfl (by omega)) rfl rfl rfl ?_
            | refine Jl.yd (Y.neqB rfl rfl rfl Try.underlying4) rfl rfl rfl ?_
            | refine Jl.yd (Y.cmp rfl rfl rfl rfl) rfl rfl rfl ?_
            | refine Jl.yd (Y.not rfl rfl) rfl rfl rfl ?_
            | refine Jl.yd (Y.arithN rfl rfl rfl rfl (by omega)) rfl rfl rfl ?_
            | refine Jl.yd (Y.arith64 rfl rfl rfl rfl) rfl rfl rfl ?_
            | refine Jl.yd (Y.loadA rfl rfl agg26 (by repeat (first | exact .head _ | refine .tail _ ?_)) (by rfl)) rfl rfl rfl ?_
            | refine Jl.yd (Y.load1 rfl rfl sc27 (by repeat (first | exact .head _ | refine .tail _ ?_)) (by rfl)) rfl rfl rfl ?_
            | refine Jl.yd (Y.lenS Try.underlying27 rfl rfl rfl) rfl rfl rfl ?_
            | refine Jl.yd (Y.lenS Try.underlying24 rfl rfl rfl) rfl rfl rfl ?_
            | refine Jl.call1 (v := .int .i64 (gr s)) rfl rfl rfl rfl en88 rfl (fun w hW => by with_reducible exact grC s w) ?_
            | refine Jl.yd (Y.idx0 rfl rfl rfl el24 (by omega) (by omega)) rfl rfl rfl ?_
            | refine Jl.yd (Y.loadRI rfl rfl sc3 (by repeat (first | exact .head _ | refine .tail _ ?_)) ((q : Nat) : Int) (by omega) (by omega) (by omega)) rfl rfl rfl ?_
            | refine Jl.yd (Y.idx rfl rfl rfl el27 (by omega) (by omega)) rfl rfl rfl ?_
            | refine Jl.yd (Y.loadK z35 [.int .i64 y.f0, .int .i64 y.f1, .int .i64 y.f2, .int .i64 y.f3] rfl rfl agg35 (by repeat (first | exact memH | refine memT ?_)) ((o.getD (((q : Nat) : Int)).toNat 0)) (by omega) (by omega) (by rfl) (fun w cs h => (k35_open h).trans huy) (by rfl)) rfl rfl rfl ?_
            | refine Jl.call1 (v := .int .i64 (wtF wd ht y)) rfl rfl rfl rfl en86 rfl (fun w hW => by with_reducible exact fw hg' hyo A0 c0 w (hW.fact (p := (fun W => Kd.C (Kd.int .i64) W A0 cs.length cs)) (by repeat (first | exact memH | refine memT ?_))) hc) ?_
            | refine Jl.splitG rfl rfl (fun h => ?_) (fun h => ?_))
          | (apply gateE; first
            | refine Jl.nil (Ej.go ?_ (fun _ _ h => h))
            | (refine Jl.nil (Ej.back (fun _ _ h => h) (by repeat (first | exact .refl | apply DropTo.tail)) ?_); repeat (first | exact trivial | refine ⟨rfl, ?_⟩)))
          | (apply gateC; first
            | refine Cj.block rfl ?_
            | refine Cj.regionD rfl (mkD [0, 1, 2, 3, 4, 5, 6, 7, 8, 10, 11] []) [] [0, 1, 2, 3, 4, 5, 6, 7, 8, 9, 10, 11] mixed (by decide +kernel) ?_
            | refine Cj.condF rfl rfl (Cj.skip rfl (Ej.go ?_ (fun _ _ h => h)))
            | (refine Cj.condF rfl rfl (Cj.skip rfl (Ej.back (fun _ _ h => h) (by repeat (first | exact .refl | apply DropTo.tail)) ?_)); repeat (first | exact trivial | refine ⟨rfl, ?_⟩))
            | refine Cj.condF rfl rfl ?_
            | refine Cj.condT rfl rfl ?_
            | refine Cj.exit rfl (Ej.go ?_ (fun _ _ h => h))
            | refine Cj.cond rfl rfl (fun h => ?_) (fun h => ?_)
            | refine Cj.skip rfl (Ej.go ?_ (fun _ _ h => h))
            | (refine Cj.skip rfl (Ej.back (fun _ _ h => h) (by repeat (first | exact .refl | apply DropTo.tail)) ?_); repeat (first | exact trivial | refine ⟨rfl, ?_⟩))
            | refine Cj.seq rfl ?_
            | refine Cj.region rfl ?_))
      refine Jl.nil (Ej.cutP (ι := Nat × Int) _ _ _ _ (fun _ _ h => h) (q + 1, s - wtF wd ht y) ⟨⟨by (try dsimp only); omega, hst, hs2, by (try dsimp only); omega, by (try dsimp only); omega⟩, by dsimp only; omega⟩ ⟨rfl, rfl, rfl, rfl, rfl, rfl, trivial⟩ (by repeat (first | exact .nil | refine Pick.cons (by repeat (first | exact .z | apply OutAt.s)) ?_)) (fun p hp => hp))
    · have hmd : needD f gd (wsum wd ht l) o = q := by
        rcases Nat.lt_or_ge q o.length with h | h
        · exact (need_step f hq2 (List.getElem?_eq_getElem h)).2 hlt
        · rw [hq2, List.drop_eq_nil_of_le h]; rfl
      have hlq : (o.take q).length = q := by rw [List.length_take]; omega
      refine Cj.ws (ι := Unit) (fun _ => True) (fun _ => [.row KI 3 0 (.slice (some ⟨hd, 0, none⟩) q c) (o.take q), .box gc 26 [.int .i64 wd, .int .i64 ht, .slice A0 cs.length c0]]) (fun _ => []) (fun w' hW => ⟨(), trivial, by
        have : WS (base w) w' [.row KI 3 0 (.slice (some ⟨hd, 0, none⟩) (o.take q).length c) (o.take q), .box gc 26 [.int .i64 wd, .int .i64 ht, .slice A0 cs.length c0], .box gh 27 [.slice A1 l.length c1]] [] := ((hW.sub (ps' := []) (fun p hp => by cases hp)).upd (n := 0) (i := .row KI 3 0 (.slice (some ⟨hd, 0, none⟩) (rng l.length).length c) o) (i' := .row KI 3 0 (.slice (some ⟨hd, 0, none⟩) (o.take q).length c) (o.take q)) (w' := w') rfl (fun A hA _ => ⟨A, cutI hA (by omega), fun k hk _ => hk, Aft.refl _ _⟩))
        rw [hlq] at this
        exact this.pick (by repeat (first | exact .nil | refine Pick.cons (by repeat (first | exact .z | apply OutAt.s)) ?_))⟩) (fun _ _ => ?_)
      repeat (first
          | (apply gateO; first
            | refine Jl.yd (Y.mv rfl rfl) rfl rfl rfl ?_
            | refine Jl.yd (Y.asg rfl rfl) rfl rfl rfl ?_
            | refine Jl.yd (Y.ext rfl rfl rfl) rfl rfl rfl ?_
            | refine Jl.yd (Y.pickT rfl rfl rfl) rfl rfl rfl ?_
            | refine Jl.yd (Y.pickF rfl rfl rfl) rfl rfl rfl ?_
            | refine Jl.off rfl rfl rfl ?_
            | refine Jl.yd (Y.cmpF rfl rfl rfl rfl (by omega)) rfl rfl rfl ?_
            | refine Jl.yd (Y.cmpT rfl rfl rfl rfl (by omega)) rfl rfl rfl ?_
            | refine Jl.yd (Y.neqB rfl rfl rfl Try.underlying4) rfl rfl rfl ?_
            | refine Jl.yd (Y.cmp rfl rfl rfl rfl) rfl rfl rfl ?_
            | refine Jl.yd (Y.not rfl rfl) rfl rfl rfl ?_
            | refine Jl.yd (Y.arithN rfl rfl rfl rfl (by omega)) rfl rfl rfl ?_
            | refine Jl.yd (Y.arith64 rfl rfl rfl rfl) rfl rfl rfl ?_
            | refine Jl.yd (Y.lenS Try.underlying27 rfl rfl rfl) rfl rfl rfl ?_
            | refine Jl.yd (Y.lenS Try.underlying24 rfl rfl rfl) rfl rfl rfl ?_
            | refine Jl.call1 (v := .int .i64 (gr s)) rfl rfl rfl rfl en88 rfl (fun w hW => by with_reducible exact grC s w) ?_
            | refine Jl.yd (Y.sliTo rfl rfl rfl el24 (by omega) (by omega)) rfl rfl rfl ?_
            | refine Jl.callM (.row KI 3 0 (.slice (some ⟨hd, 0, none⟩) q c) (o.take q)) (.row KI 3 0 (.slice (some ⟨hd, 0, none⟩) q c) (sortI (o.take q))) (v := .tuple #[]) rfl rfl rfl rfl en89 rfl (by with_reducible first | exact .z | exact .s .z | exact .s (.s .z) | exact .s (.s (.s .z))) (fun w A hW hA => sortQ hlq hA (by omega)) ?_
            | refine Jl.splitG rfl rfl (fun h => ?_) (fun h => ?_))
          | (apply gateE; first
            | refine Jl.nil (Ej.go ?_ (fun _ _ h => h))
            | (refine Jl.nil (Ej.back (fun _ _ h => h) (by repeat (first | exact .refl | apply DropTo.tail)) ?_); repeat (first | exact trivial | refine ⟨rfl, ?_⟩)))
          | (apply gateC; first
            | refine Cj.block rfl ?_
            | refine Cj.ret rfl (Ej.out2 (P := Try.prog) (fn := Try.f14) (R := Rr) (fun _ _ h => h) rfl rfl rfl (fun w' hW => ⟨_, rfl, by rw [hoo, hmd]; exact outI hW (by repeat (first | exact .nil | refine Pick.cons (by repeat (first | exact .z | apply OutAt.s)) ?_)), hW.below⟩))
            | refine Cj.condF rfl rfl (Cj.skip rfl (Ej.go ?_ (fun _ _ h => h)))
            | (refine Cj.condF rfl rfl (Cj.skip rfl (Ej.back (fun _ _ h => h) (by repeat (first | exact .refl | apply DropTo.tail)) ?_)); repeat (first | exact trivial | refine ⟨rfl, ?_⟩))
            | refine Cj.condF rfl rfl ?_
            | refine Cj.condT rfl rfl ?_
            | refine Cj.exit rfl (Ej.go ?_ (fun _ _ h => h))
            | refine Cj.cond rfl rfl (fun h => ?_) (fun h => ?_)
            | refine Cj.skip rfl (Ej.go ?_ (fun _ _ h => h))
            | (refine Cj.skip rfl (Ej.back (fun _ _ h => h) (by repeat (first | exact .refl | apply DropTo.tail)) ?_); repeat (first | exact trivial | refine ⟨rfl, ?_⟩))
            | refine Cj.seq rfl ?_
            | refine Cj.region rfl ?_))
end FR
end Go.Proofs.Ytkglpfdoefdhdaa.WK

namespace Go.Proofs.Ytkglpfdoefdhdaa.WK
open Go Go.RowKit Go.Proofs.Ytkglpfdoefdhdaa.Q Go.Proofs.Ytkglpfdoefdhdaa.M Go.Proofs.YtkglpfdoefdhdaaW.PrintWords Go.Proofs.YtkglpfdoefdhdaaW.SL
open Go.Proofs.YtkglpfdoefdhdaaW.Pl (nth nth_get nth_mem)
open Go.Proofs.Ytkglpfdoefdhdaa.M.MN (mm lostL lostE)
set_option linter.unusedSimpArgs false
set_option linter.unusedVariables false
set_option maxRecDepth 100000
namespace FM
open MO (ordL mixed agg26 agg76 el24 el65 sc3 sc65 ap24 rng rng_succ rng_len zero3)
open MQ (hasInts)
theorem en91 : Ent Try.prog 91 := ⟨enters_of Try.func91 (by kernel_rfl) rfl⟩
theorem en95 : Ent Try.prog 95 := ⟨enters_of Try.func95 (by kernel_rfl) rfl⟩
end FM
end Go.Proofs.Ytkglpfdoefdhdaa.WK

namespace Go.Proofs.Ytkglpfdoefdhdaa.WK
open Go Go.RowKit Go.Proofs.Ytkglpfdoefdhdaa.Q Go.Proofs.Ytkglpfdoefdhdaa.M Go.Proofs.YtkglpfdoefdhdaaW.PrintWords Go.Proofs.YtkglpfdoefdhdaaW.SL
open Go.Proofs.YtkglpfdoefdhdaaW.Pl (nth nth_get nth_mem)
set_option linter.unusedSimpArgs false
set_option linter.unusedVariables false
set_option maxRecDepth 100000
namespace FR
open MO (mixed sc3 agg26 zero3 el24 ap24 rng rng_succ rng_len rng_mem outI)
open IF (enc agg35 el27 flat35 ap27)
open NF (zero35 sz35)
open FW
open FM (fill4)
open MQ (hasInts)
theorem en90 : Ent Try.prog 90 := ⟨enters_of Try.func90 (by kernel_rfl) rfl⟩
theorem en91 : Ent Try.prog 91 := ⟨enters_of Try.func91 (by kernel_rfl) rfl⟩
theorem en92 : Ent Try.prog 92 := ⟨enters_of Try.func92 (by kernel_rfl) rfl⟩
theorem en93 : Ent Try.prog 93 := ⟨enters_of Try.func93 (by kernel_rfl) rfl⟩
theorem en94 : Ent Try.prog 94 := ⟨enters_of Try.func94 (by kernel_rfl) rfl⟩
theorem en95 : Ent Try.prog 95 := ⟨enters_of Try.func95 (by kernel_rfl) rfl⟩
theorem en96 : Ent Try.prog 96 := ⟨enters_of Try.func96 (by kernel_rfl) rfl⟩
theorem inGS {m : Int} {b : Bool} (h : decide (1 ≤ m ∧ m ≤ 4) = b) (w : World) : Calls Try.prog 91 #[.int .i64 m, .int .i64 1, .int .i64 4] w fun e w' => e = .returned (.bool b) ∧ Below w.heap.size w w' :=
  (spec_l1In.calls m 1 4 b w (by rw [l1In, h])).mono (fun _ _ hh => ⟨hh.1, hh.2.below⟩)
theorem swC {wd ht : Int} {cs : List Int} {y : S35} (hg : goodC wd ht cs = true) (hy : okF wd ht y = true) (A0 : Option Addr) (c0 : Nat) (w : World) (hr : Kd.C (Kd.int .i64) w A0 cs.length cs) (hc : cs.length ≤ c0) : Calls Try.prog 94 #[.agg #[.int .i64 wd, .int .i64 ht, .slice A0 cs.length c0], .agg #[.int .i64 y.f0, .int .i64 y.f1, .int .i64 y.f2, .int .i64 y.f3]] w fun e w' => e = .returned (.int .i64 (wtF wd ht y)) ∧ Below w.heap.size w w' :=
  spec_l22Weight.calls wd ht A0 c0 cs y.f0 y.f1 y.f2 y.f3 (wtF wd ht y) w hr hc (sWt hg hy)
theorem hasC {xs : List Int} (hl : xs.length ≤ 2097152) {j : Int} {b : Bool} (h : decide (j ∈ xs) = b) {A : Option Addr} {c : Nat} {w : World} (h1 : Kd.C (Kd.int .i64) w A xs.length xs) (h2 : xs.length ≤ c) : Calls Try.prog 95 #[.slice A xs.length c, .int .i64 j] w fun e w' => e = .returned (.bool b) ∧ Below w.heap.size w w' := by
  obtain ⟨k, hk⟩ := (hasInts xs j hl).rounds
  rw [h] at hk
  first | exact spec_l1Has.calls k A c xs j b w h1 h2 hk | exact (spec_l1Has.calls k A c xs j b w h1 h2 hk).mono (fun _ _ hh => ⟨hh.1, hh.2.below⟩)
theorem grSC {s p : Int} (h0 : 0 ≤ s) (hp : p = s) (w : World) : Calls Try.prog 92 #[.int .i64 (mx (100 - p) 0)] w fun e w' => e = .returned (.int .i64 (gr s)) ∧ Below w.heap.size w w' := by
  subst hp
  exact (spec_l22Grade.calls _ (gr p) w (sGr h0)).mono (fun _ _ hh => ⟨hh.1, hh.2.below⟩)
/-- The first j flaws that are not in S. -/
def leftA (l : List S35) (S : List Int) (j : Nat) : List S35 := ((rng j).filter fun i => !decide (i ∈ S)).map fun a => nth l a.toNat z35
theorem leftA_len (l : List S35) (S : List Int) (j : Nat) : (leftA l S j).length ≤ j := by
  unfold leftA
  rw [List.length_map]
  exact Nat.le_trans (List.length_filter_le _ _) (by rw [rng_len]; exact Nat.le_refl _)
theorem leftA_in {l : List S35} {S : List Int} {j : Nat} (h : (j : Int) ∈ S) : leftA l S (j + 1) = leftA l S j := by
  unfold leftA
  rw [rng_succ, List.filter_append, List.map_append, List.filter_cons, if_neg (by show ¬ ((!decide ((j : Int) ∈ S)) = true); rw [decide_eq_true h]; decide), List.filter_nil, List.map_nil, List.append_nil]
theorem leftA_out {l : List S35} {S : List Int} {j : Nat} (h : (j : Int) ∉ S) : leftA l S (j + 1) = leftA l S j ++ [nth l j z35] := by
  unfold leftA
  rw [rng_succ, List.filter_append, List.map_append, List.filter_cons, if_pos (by show (!decide ((j : Int) ∈ S)) = true; rw [decide_eq_false h]; rfl), List.filter_nil, List.map_cons, List.map_nil]
  rfl
theorem leftA_ok {wd ht : Int} {l : List S35} {S : List Int} {j : Nat} (hj : j ≤ l.length) (ho : ∀ x ∈ l, okF wd ht x = true) : ∀ x ∈ leftA l S j, okF wd ht x = true := fun x hx => by
  obtain ⟨a, ha, rfl⟩ := List.mem_map.1 hx
  obtain ⟨i, hi, rfl⟩ := rng_mem (List.mem_filter.1 ha).1
  rw [Int.toNat_natCast]
  exact ho _ (nth_mem (by omega))
theorem leftA_sum (wd ht : Int) (l : List S35) (S : List Int) (j : Nat) : wsum wd ht (leftA l S j) = sumI (((rng j).filter fun i => !decide (i ∈ S)).map (wI wd ht l)) := by
  unfold wsum leftA
  rw [List.map_map]
  rfl
set_option maxHeartbeats 4000000 in
theorem frsNo {wd ht : Int} {cs : List Int} {l : List S35} (gd : Int) (A0 : Option Addr) (c0 : Nat) (A1 : Option Addr) (c1 : Nat) (w : World) (hrC : Kd.C (Kd.int .i64) w A0 cs.length cs) (hc : cs.length ≤ c0) (hrH : Kd.C k35 w A1 l.length l) (hcl : l.length ≤ c1) (hlb : l.length ≤ 1048576) (hcb : cs.length ≤ 1048576) (hg : goodF wd ht cs l = false) : Calls Try.prog 15 #[.agg #[.int .i64 wd, .int .i64 ht, .slice A0 cs.length c0], .slice A1 l.length c1, .int .i64 gd] w fun e w' => ∃ v, e = .returned (.tuple #[v, .bool false]) ∧ (Kd.int .i64).R 3 w' w.heap.size (fun _ => True) v [] ∧ Below w.heap.size w w' := by
  obtain ⟨kk, hk⟩ := (sFlaws wd ht cs l hcb hlb).rounds
  rw [hg] at hk
  let Rr : Ending → World → Prop := fun e w' => ∃ v, e = .returned (.tuple #[v, .bool false]) ∧ (Kd.int .i64).R 3 w' w.heap.size (fun _ => True) v [] ∧ Below w.heap.size w w'
  refine enterW (args := [.agg #[.int .i64 wd, .int .i64 ht, .slice A0 cs.length c0], .slice A1 l.length c1, .int .i64 gd]) [(fun W => Kd.C (Kd.int .i64) W A0 cs.length cs), (fun W => Kd.C k35 W A1 l.length l)] (fun p hp W hb => by
    rcases List.mem_cons.1 hp with rfl | hp
    · exact Kd.C_below hrC hb
    · rw [List.mem_singleton.1 hp]; exact Kd.C_below hrH hb) Try.func15 rfl rfl ?_
  show Cj Try.prog _ _ _ (bodyPost Try.prog Try.f15 Rr) _ _ _
  repeat (first
    | (apply gateO; first
      | refine Jl.yd (Y.mv rfl rfl) rfl rfl rfl ?_
      | refine Jl.yd (Y.asg rfl rfl) rfl rfl rfl ?_
      | refine Jl.yd (Y.ext rfl rfl rfl) rfl rfl rfl ?_
      | refine Jl.yd (Y.pickT rfl rfl rfl) rfl rfl rfl ?_
      | refine Jl.yd (Y.pickF rfl rfl rfl) rfl rfl rfl ?_
      | refine Jl.off rfl rfl rfl ?_
      | refine Jl.yd (Y.cmpF rfl rfl rfl rfl (by omega)) rfl rfl rfl ?_
      | refine Jl.yd (Y.cmpT rfl rfl rfl rfl (by omega)) rfl rfl rfl ?_
      | refine Jl.yd (Y.neqB rfl rfl rfl Try.underlying4) rfl rfl rfl ?_
      | refine Jl.yd (Y.cmp rfl rfl rfl rfl) rfl rfl rfl ?_
      | refine Jl.yd (Y.not rfl rfl) rfl rfl rfl ?_
      | refine Jl.yd (Y.arithN rfl rfl rfl rfl (by omega)) rfl rfl rfl ?_
      | refine Jl.yd (Y.arith64 rfl rfl rfl rfl) rfl rfl rfl ?_
      | refine Jl.yd (Y.loadA rfl rfl agg26 (by repeat (first | exact .head _ | refine .tail _ ?_)) (by rfl)) rfl rfl rfl ?_
      | refine Jl.yd (Y.lenS Try.underlying27 rfl rfl rfl) rfl rfl rfl ?_
      | refine Jl.box (zs := [.int .i64 wd, .int .i64 ht, .slice A0 cs.length c0]) rfl rfl rfl rfl rfl (by rfl) (fun gc => ?_)
      | refine Jl.lit0 KI rfl rfl rfl rfl el24 (fun g0 => ?_)
      | refine Jl.call1 (v := .bool false) rfl rfl rfl rfl en90 rfl (fun w hW => by with_reducible exact spec_l22Good.calls kk wd ht A0 c0 cs A1 c1 l false w (hW.fact (p := (fun W => Kd.C (Kd.int .i64) W A0 cs.length cs)) (by repeat (first | exact memH | refine memT ?_))) hc (hW.fact (p := (fun W => Kd.C k35 W A1 l.length l)) (by repeat (first | exact memH | refine memT ?_))) hcl hk) ?_
      | refine Jl.splitG rfl rfl (fun h => ?_) (fun h => ?_))
    | (apply gateE; first
      | refine Jl.nil (Ej.go ?_ (fun _ _ h => h))
      | (refine Jl.nil (Ej.back (fun _ _ h => h) (by repeat (first | exact .refl | apply DropTo.tail)) ?_); repeat (first | exact trivial | refine ⟨rfl, ?_⟩)))
    | (apply gateC; first
      | refine Cj.ret rfl (Ej.out2 (P := Try.prog) (fn := Try.f15) (R := Rr) (fun _ _ h => h) rfl rfl rfl (fun w' hW => ⟨_, rfl, outI hW (by repeat (first | exact .nil | refine Pick.cons (by repeat (first | exact .z | apply OutAt.s)) ?_)), hW.below⟩))
      | refine Cj.condF rfl rfl (Cj.skip rfl (Ej.go ?_ (fun _ _ h => h)))
      | (refine Cj.condF rfl rfl (Cj.skip rfl (Ej.back (fun _ _ h => h) (by repeat (first | exact .refl | apply DropTo.tail)) ?_)); repeat (first | exact trivial | refine ⟨rfl, ?_⟩))
      | refine Cj.condF rfl rfl ?_
      | refine Cj.condT rfl rfl ?_
      | refine Cj.exit rfl (Ej.go ?_ (fun _ _ h => h))
      | refine Cj.cond rfl rfl (fun h => ?_) (fun h => ?_)
      | refine Cj.skip rfl (Ej.go ?_ (fun _ _ h => h))
      | (refine Cj.skip rfl (Ej.back (fun _ _ h => h) (by repeat (first | exact .refl | apply DropTo.tail)) ?_); repeat (first | exact trivial | refine ⟨rfl, ?_⟩))
      | refine Cj.seq rfl ?_
      | refine Cj.region rfl ?_))
set_option maxHeartbeats 4000000 in
theorem frsNoG {wd ht : Int} {cs : List Int} {l : List S35} (gd : Int) (A0 : Option Addr) (c0 : Nat) (A1 : Option Addr) (c1 : Nat) (w : World) (hrC : Kd.C (Kd.int .i64) w A0 cs.length cs) (hc : cs.length ≤ c0) (hrH : Kd.C k35 w A1 l.length l) (hcl : l.length ≤ c1) (hlb : l.length ≤ 1048576) (hcb : cs.length ≤ 1048576) (hg : goodF wd ht cs l = true) (hin : decide (1 ≤ gd ∧ gd ≤ 4) = false) : Calls Try.prog 15 #[.agg #[.int .i64 wd, .int .i64 ht, .slice A0 cs.length c0], .slice A1 l.length c1, .int .i64 gd] w fun e w' => ∃ v, e = .returned (.tuple #[v, .bool false]) ∧ (Kd.int .i64).R 3 w' w.heap.size (fun _ => True) v [] ∧ Below w.heap.size w w' := by
  obtain ⟨kk, hk⟩ := (sFlaws wd ht cs l hcb hlb).rounds
  rw [hg] at hk
  let Rr : Ending → World → Prop := fun e w' => ∃ v, e = .returned (.tuple #[v, .bool false]) ∧ (Kd.int .i64).R 3 w' w.heap.size (fun _ => True) v [] ∧ Below w.heap.size w w'
  refine enterW (args := [.agg #[.int .i64 wd, .int .i64 ht, .slice A0 cs.length c0], .slice A1 l.length c1, .int .i64 gd]) [(fun W => Kd.C (Kd.int .i64) W A0 cs.length cs), (fun W => Kd.C k35 W A1 l.length l)] (fun p hp W hb => by
    rcases List.mem_cons.1 hp with rfl | hp
    · exact Kd.C_below hrC hb
    · rw [List.mem_singleton.1 hp]; exact Kd.C_below hrH hb) Try.func15 rfl rfl ?_
  show Cj Try.prog _ _ _ (bodyPost Try.prog Try.f15 Rr) _ _ _
  repeat (first
    | (apply gateO; first
      | refine Jl.yd (Y.mv rfl rfl) rfl rfl rfl ?_
      | refine Jl.yd (Y.asg rfl rfl) rfl rfl rfl ?_
      | refine Jl.yd (Y.ext rfl rfl rfl) rfl rfl rfl ?_
      | refine Jl.yd (Y.pickT rfl rfl rfl) rfl rfl rfl ?_
      | refine Jl.yd (Y.pickF rfl rfl rfl) rfl rfl rfl ?_
      | refine Jl.off rfl rfl rfl ?_
      | refine Jl.yd (Y.cmpF rfl rfl rfl rfl (by omega)) rfl rfl rfl ?_
      | refine Jl.yd (Y.cmpT rfl rfl rfl rfl (by omega)) rfl rfl rfl ?_
      | refine Jl.yd (Y.neqB rfl rfl rfl Try.underlying4) rfl rfl rfl ?_
      | refine Jl.yd (Y.cmp rfl rfl rfl rfl) rfl rfl rfl ?_
      | refine Jl.yd (Y.not rfl rfl) rfl rfl rfl ?_
      | refine Jl.yd (Y.arithN rfl rfl rfl rfl (by omega)) rfl rfl rfl ?_
      | refine Jl.yd (Y.arith64 rfl rfl rfl rfl) rfl rfl rfl ?_
      | refine Jl.yd (Y.loadA rfl rfl agg26 (by repeat (first | exact .head _ | refine .tail _ ?_)) (by rfl)) rfl rfl rfl ?_
      | refine Jl.yd (Y.lenS Try.underlying27 rfl rfl rfl) rfl rfl rfl ?_
      | refine Jl.box (zs := [.int .i64 wd, .int .i64 ht, .slice A0 cs.length c0]) rfl rfl rfl rfl rfl (by rfl) (fun gc => ?_)
      | refine Jl.lit0 KI rfl rfl rfl rfl el24 (fun g0 => ?_)
      | refine Jl.call1 (v := .bool true) rfl rfl rfl rfl en90 rfl (fun w hW => by with_reducible exact spec_l22Good.calls kk wd ht A0 c0 cs A1 c1 l true w (hW.fact (p := (fun W => Kd.C (Kd.int .i64) W A0 cs.length cs)) (by repeat (first | exact memH | refine memT ?_))) hc (hW.fact (p := (fun W => Kd.C k35 W A1 l.length l)) (by repeat (first | exact memH | refine memT ?_))) hcl hk) ?_
      | refine Jl.call1 (v := .bool false) rfl rfl rfl rfl en91 rfl (fun w hW => by with_reducible exact inGS hin w) ?_
      | refine Jl.splitG rfl rfl (fun h => ?_) (fun h => ?_))
    | (apply gateE; first
      | refine Jl.nil (Ej.go ?_ (fun _ _ h => h))
      | (refine Jl.nil (Ej.back (fun _ _ h => h) (by repeat (first | exact .refl | apply DropTo.tail)) ?_); repeat (first | exact trivial | refine ⟨rfl, ?_⟩)))
    | (apply gateC; first
      | refine Cj.ret rfl (Ej.out2 (P := Try.prog) (fn := Try.f15) (R := Rr) (fun _ _ h => h) rfl rfl rfl (fun w' hW => ⟨_, rfl, outI hW (by repeat (first | exact .nil | refine Pick.cons (by repeat (first | exact .z | apply OutAt.s)) ?_)), hW.below⟩))
      | refine Cj.condF rfl rfl (Cj.skip rfl (Ej.go ?_ (fun _ _ h => h)))
      | (refine Cj.condF rfl rfl (Cj.skip rfl (Ej.back (fun _ _ h => h) (by repeat (first | exact .refl | apply DropTo.tail)) ?_)); repeat (first | exact trivial | refine ⟨rfl, ?_⟩))
      | refine Cj.condF rfl rfl ?_
      | refine Cj.condT rfl rfl ?_
      | refine Cj.exit rfl (Ej.go ?_ (fun _ _ h => h))
      | refine Cj.cond rfl rfl (fun h => ?_) (fun h => ?_)
      | refine Cj.skip rfl (Ej.go ?_ (fun _ _ h => h))
      | (refine Cj.skip rfl (Ej.back (fun _ _ h => h) (by repeat (first | exact .refl | apply DropTo.tail)) ?_); repeat (first | exact trivial | refine ⟨rfl, ?_⟩))
      | refine Cj.seq rfl ?_
      | refine Cj.region rfl ?_))
set_option maxHeartbeats 16000000 in
/-- The reference's FewestRepairs. -/
theorem frsYes {wd ht : Int} {cs : List Int} {l : List S35} (gd : Int) (A0 : Option Addr) (c0 : Nat) (A1 : Option Addr) (c1 : Nat) (w : World) (hrC : Kd.C (Kd.int .i64) w A0 cs.length cs) (hc : cs.length ≤ c0) (hrH : Kd.C k35 w A1 l.length l) (hcl : l.length ≤ c1) (hlb : l.length ≤ 1048576) (hcb : cs.length ≤ 1048576) (hg : goodF wd ht cs l = true) (hin : decide (1 ≤ gd ∧ gd ≤ 4) = true) (f : Int → Int) (hf : wI wd ht l = f) (o : List Int) (hoo : ordD f l.length = o) : Calls Try.prog 15 #[.agg #[.int .i64 wd, .int .i64 ht, .slice A0 cs.length c0], .slice A1 l.length c1, .int .i64 gd] w fun e w' => ∃ v, e = .returned (.tuple #[v, .bool true]) ∧ (Kd.int .i64).R 3 w' w.heap.size (fun _ => True) v (putL (o.take (needD f gd (wsum wd ht l) o))) ∧ Below w.heap.size w w' := by
  obtain ⟨kk, hk⟩ := (sFlaws wd ht cs l hcb hlb).rounds
  rw [hg] at hk
  obtain ⟨hg', hl12, hoi, ho⟩ := good_oks hg
  have hin2 := of_decide_eq_true hin
  have hwb := wsum_b ho
  have hws := wsum_ord wd ht l
  have hfw : ∀ i : Nat, i < l.length → f (i : Int) = wtF wd ht (nth l i z35) := fun i _ => by rw [← hf]; unfold wI; rw [Int.toNat_natCast]
  have hol : o.length = l.length := by rw [← hoo, ordD_len]
  have hom : ∀ a ∈ o, ∃ i : Nat, i < l.length ∧ a = (i : Int) := fun a ha => ordD_mem f (hoo ▸ ha)
  rw [hf, hoo] at hws
  have hnn : ∀ m, 0 ≤ sumI ((o.drop m).map f) := fun m => sumI_nn f _ (fun a ha => by
    obtain ⟨j, hj, rfl⟩ := hom a (List.mem_of_mem_drop ha)
    rw [hfw j hj]
    have := wt_b (hoi j hj)
    omega)
  let Rr : Ending → World → Prop := fun e w' => ∃ v, e = .returned (.tuple #[v, .bool true]) ∧ (Kd.int .i64).R 3 w' w.heap.size (fun _ => True) v (putL (o.take (needD f gd (wsum wd ht l) o))) ∧ Below w.heap.size w w'
  refine enterW (args := [.agg #[.int .i64 wd, .int .i64 ht, .slice A0 cs.length c0], .slice A1 l.length c1, .int .i64 gd]) [(fun W => Kd.C (Kd.int .i64) W A0 cs.length cs), (fun W => Kd.C k35 W A1 l.length l)] (fun p hp W hb => by
    rcases List.mem_cons.1 hp with rfl | hp
    · exact Kd.C_below hrC hb
    · rw [List.mem_singleton.1 hp]; exact Kd.C_below hrH hb) Try.func15 rfl rfl ?_
  show Cj Try.prog _ _ _ (bodyPost Try.prog Try.f15 Rr) _ _ _
  repeat (first
    | (apply gateO; first
      | refine Jl.yd (Y.mv rfl rfl) rfl rfl rfl ?_
      | refine Jl.yd (Y.asg rfl rfl) rfl rfl rfl ?_
      | refine Jl.yd (Y.ext rfl rfl rfl) rfl rfl rfl ?_
      | refine Jl.yd (Y.pickT rfl rfl rfl) rfl rfl rfl ?_
      | refine Jl.yd (Y.pickF rfl rfl rfl) rfl rfl rfl ?_
      | refine Jl.off rfl rfl rfl ?_
      | refine Jl.yd (Y.cmpF rfl rfl rfl rfl (by omega)) rfl rfl rfl ?_
      | refine Jl.yd (Y.cmpT rfl rfl rfl rfl (by omega)) rfl rfl rfl ?_
      | refine Jl.yd (Y.neqB rfl rfl rfl Try.underlying4) rfl rfl rfl ?_
      | refine Jl.yd (Y.cmp rfl rfl rfl rfl) rfl rfl rfl ?_
      | refine Jl.yd (Y.not rfl rfl) rfl rfl rfl ?_
      | refine Jl.yd (Y.arithN rfl rfl rfl rfl (by omega)) rfl rfl rfl ?_
      | refine Jl.yd (Y.arith64 rfl rfl rfl rfl) rfl rfl rfl ?_
      | refine Jl.yd (Y.loadA rfl rfl agg26 (by repeat (first | exact .head _ | refine .tail _ ?_)) (by rfl)) rfl rfl rfl ?_
      | refine Jl.yd (Y.lenS Try.underlying27 rfl rfl rfl) rfl rfl rfl ?_
      | refine Jl.box (zs := [.int .i64 wd, .int .i64 ht, .slice A0 cs.length c0]) rfl rfl rfl rfl rfl (by rfl) (fun gc => ?_)
      | refine Jl.lit0 k35 rfl rfl rfl rfl el27 (fun g4 => ?_)
      | refine Jl.lit0 KI rfl rfl rfl rfl el24 (fun g0 => ?_)
      | refine Jl.call1 (v := .bool true) rfl rfl rfl rfl en90 rfl (fun w hW => by with_reducible exact spec_l22Good.calls kk wd ht A0 c0 cs A1 c1 l true w (hW.fact (p := (fun W => Kd.C (Kd.int .i64) W A0 cs.length cs)) (by repeat (first | exact memH | refine memT ?_))) hc (hW.fact (p := (fun W => Kd.C k35 W A1 l.length l)) (by repeat (first | exact memH | refine memT ?_))) hcl hk) ?_
      | refine Jl.call1 (v := .bool true) rfl rfl rfl rfl en91 rfl (fun w hW => by with_reducible exact inGS hin w) ?_
      | refine Jl.appF (dk := k35) (xs := []) (zs := l) flat35 rfl rfl rfl rfl rfl rfl ap27 rfl (by repeat (first | exact memH | refine memT ?_)) (by repeat (first | exact .z | apply OutAt.s)) (by try simp only [List.length_append, List.length_cons, List.length_nil, List.length_take, List.length_drop]; omega) (by try simp only [List.length_append, List.length_cons, List.length_nil, List.length_take, List.length_drop]; omega) (fun A4 c4 h4 => ?_)
      | refine Jl.splitG rfl rfl (fun h => ?_) (fun h => ?_))
    | (apply gateE; first
      | refine Jl.nil (Ej.go ?_ (fun _ _ h => h))
      | (refine Jl.nil (Ej.back (fun _ _ h => h) (by repeat (first | exact .refl | apply DropTo.tail)) ?_); repeat (first | exact trivial | refine ⟨rfl, ?_⟩)))
    | (apply gateC; first
      | refine Cj.block rfl ?_
      | refine Cj.condF rfl rfl (Cj.skip rfl (Ej.go ?_ (fun _ _ h => h)))
      | (refine Cj.condF rfl rfl (Cj.skip rfl (Ej.back (fun _ _ h => h) (by repeat (first | exact .refl | apply DropTo.tail)) ?_)); repeat (first | exact trivial | refine ⟨rfl, ?_⟩))
      | refine Cj.condF rfl rfl ?_
      | refine Cj.condT rfl rfl ?_
      | refine Cj.exit rfl (Ej.go ?_ (fun _ _ h => h))
      | refine Cj.cond rfl rfl (fun h => ?_) (fun h => ?_)
      | refine Cj.skip rfl (Ej.go ?_ (fun _ _ h => h))
      | (refine Cj.skip rfl (Ej.back (fun _ _ h => h) (by repeat (first | exact .refl | apply DropTo.tail)) ?_); repeat (first | exact trivial | refine ⟨rfl, ?_⟩))
      | refine Cj.seq rfl ?_
      | refine Cj.region rfl ?_))
  refine Cj.loopP (ι := Nat × Int × (Option Addr × Nat) × (Option Addr × Nat × List S35)) (fun q => (q.1 ≤ l.length ∧ needD f gd (wsum wd ht l) o = q.1 + needD f gd q.2.1 (o.drop q.1) ∧ q.2.1 = sumI ((o.drop q.1).map f)) ∧ (q.2.2.2.2.2.length ≤ 12 ∧ (∀ x ∈ q.2.2.2.2.2, okF wd ht x = true) ∧ wsum wd ht q.2.2.2.2.2 = q.2.1)) (fun q => [(1, .slice A1 l.length c1), (2, .int .i64 gd), (3, .pointer (some ⟨gc, 0, none⟩)), (8, .slice q.2.2.1.1 (putL (o.take q.1) : List Int).length q.2.2.1.2), (9, .slice q.2.2.2.1 (q.2.2.2.2.2 : List S35).length q.2.2.2.2.1)]) (fun q => [.row k35 35 0 (.slice q.2.2.2.1 (q.2.2.2.2.2 : List S35).length q.2.2.2.2.1) (q.2.2.2.2.2), .row KI 3 0 (.slice q.2.2.1.1 (putL (o.take q.1) : List Int).length q.2.2.1.2) (putL (o.take q.1)), .box gc 26 [.int .i64 wd, .int .i64 ht, .slice A0 cs.length c0]]) (fun _ => [(fun W => Kd.C (Kd.int .i64) W A0 cs.length cs), (fun W => Kd.C k35 W A1 l.length l)]) (fun q => l.length - q.1) rfl (0, wsum wd ht l, (some ⟨g0, 0, none⟩, 0), (A4, c4, [] ++ l)) ⟨⟨Nat.zero_le _, by simp, by simpa using hws⟩, by simpa using hl12, by simpa using ho, by simp⟩ ⟨rfl, rfl, rfl, rfl, rfl, trivial⟩ (by repeat (first | exact .nil | refine Pick.cons (by repeat (first | exact .z | apply OutAt.s)) ?_)) (fun p hp => hp) (fun q hq => ?_)
  obtain ⟨m, s, ⟨Ao, co⟩, ⟨Al, cl, LL⟩⟩ := q
  dsimp only at hq ⊢
  obtain ⟨⟨hm1, hq2, hq3⟩, hLn, hLo, hLs⟩ := hq
  have hs0 : 0 ≤ s := by rw [hq3]; exact hnn m
  have hgr := fun w => grSC hs0 hLs w
  by_cases hlt : gd < gr s
  · have hqn : m < o.length := by
      rcases Nat.lt_or_ge m o.length with h | h
      · exact h
      · rw [List.drop_eq_nil_of_le h] at hq3
        have hs : s = 0 := hq3
        rw [hs] at hlt
        have : gr 0 = 1 := rfl
        omega
    obtain ⟨a, ha⟩ : ∃ a, o[m]? = some a := ⟨_, List.getElem?_eq_getElem hqn⟩
    have hst := (need_step f hq2 ha).1 hlt
    have hdr : o.drop m = a :: o.drop (m + 1) := by
      rw [List.drop_eq_getElem_cons hqn]
      congr 1
      exact (List.getElem?_eq_some_iff.1 ha).2
    have hs2 : s - f a = sumI ((o.drop (m + 1)).map f) := by
      rw [hq3, hdr, List.map_cons, show sumI (f a :: (o.drop (m + 1)).map f) = f a + sumI ((o.drop (m + 1)).map f) from rfl]
      omega
    obtain ⟨S, hS⟩ : ∃ S, S = putL (o.take m) := ⟨_, rfl⟩
    have hSm : ∀ x, x ∈ S ↔ x ∈ (ordD f l.length).take m := fun x => by rw [hS, hoo]; exact putL_mem _ x
    have hscan := scan_ord f (m := m) (by omega) (fun i hi => by rw [hfw i hi]; have := wt_b (hoi i hi); omega) (by rw [hoo]; exact ha) hSm
    obtain ⟨haS, _⟩ := ord_cases f (m := m) (by omega) (by rw [hoo]; exact ha) hSm
    have hSl : (putL (o.take m)).length ≤ 2097152 := by rw [putL_len, List.length_take]; omega
    obtain ⟨ad, rfl, _⟩ := hrH.2.2 (by omega)
    repeat (first
        | (apply gateO; first
          | refine Jl.yd (Y.mv rfl rfl) rfl rfl rfl ?_
          | refine Jl.yd (Y.asg rfl rfl) rfl rfl rfl ?_
          | refine Jl.yd (Y.ext rfl rfl rfl) rfl rfl rfl ?_
          | refine Jl.yd (Y.pickT rfl rfl rfl) rfl rfl rfl ?_
          | refine Jl.yd (Y.pickF rfl rfl rfl) rfl rfl rfl ?_
          | refine Jl.off rfl rfl rfl ?_
          | refine Jl.yd (Y.cmpF rfl rfl rfl rfl (by omega)) rfl rfl rfl ?_
          | refine Jl.yd (Y.cmpT rfl rfl rfl rfl (by omega)) rfl rfl rfl ?_
          | refine Jl.yd (Y.neqB rfl rfl rfl Try.underlying4) rfl rfl rfl ?_
          | refine Jl.yd (Y.cmp rfl rfl rfl rfl) rfl rfl rfl ?_
          | refine Jl.yd (Y.not rfl rfl) rfl rfl rfl ?_
          | refine Jl.yd (Y.arithN rfl rfl rfl rfl (by omega)) rfl rfl rfl ?_
          | refine Jl.yd (Y.arith64 rfl rfl rfl rfl) rfl rfl rfl ?_
          | refine Jl.yd (Y.loadA rfl rfl agg26 (by repeat (first | exact .head _ | refine .tail _ ?_)) (by rfl)) rfl rfl rfl ?_
          | refine Jl.yd (Y.lenS Try.underlying27 rfl rfl rfl) rfl rfl rfl ?_
          | refine Jl.call1 (v := .int .i64 (mx (100 - wsum wd ht LL) 0)) rfl rfl rfl rfl en93 rfl (fun w hW => by with_reducible exact ptsC hg' hLo hLn (hW.fact (p := (fun W => Kd.C (Kd.int .i64) W A0 cs.length cs)) (by repeat (first | exact memH | refine memT ?_))) hc (hW.rowC (by repeat (first | exact memH | refine memT ?_))) (hW.rowCap (by repeat (first | exact memH | refine memT ?_))).2) ?_
          | refine Jl.call1 (v := .int .i64 (gr s)) rfl rfl rfl rfl en92 rfl (fun w hW => by with_reducible exact hgr w) ?_
          | refine Jl.lit0 k35 rfl rfl rfl rfl el27 (fun g7 => ?_)
          | refine Jl.splitG rfl rfl (fun h => ?_) (fun h => ?_))
        | (apply gateE; first
          | refine Jl.nil (Ej.go ?_ (fun _ _ h => h))
          | (refine Jl.nil (Ej.back (fun _ _ h => h) (by repeat (first | exact .refl | apply DropTo.tail)) ?_); repeat (first | exact trivial | refine ⟨rfl, ?_⟩)))
        | (apply gateC; first
          | refine Cj.block rfl ?_
          | refine Cj.condF rfl rfl (Cj.skip rfl (Ej.go ?_ (fun _ _ h => h)))
          | (refine Cj.condF rfl rfl (Cj.skip rfl (Ej.back (fun _ _ h => h) (by repeat (first | exact .refl | apply DropTo.tail)) ?_)); repeat (first | exact trivial | refine ⟨rfl, ?_⟩))
          | refine Cj.condF rfl rfl ?_
          | refine Cj.condT rfl rfl ?_
          | refine Cj.exit rfl (Ej.go ?_ (fun _ _ h => h))
          | refine Cj.cond rfl rfl (fun h => ?_) (fun h => ?_)
          | refine Cj.skip rfl (Ej.go ?_ (fun _ _ h => h))
          | (refine Cj.skip rfl (Ej.back (fun _ _ h => h) (by repeat (first | exact .refl | apply DropTo.tail)) ?_); repeat (first | exact trivial | refine ⟨rfl, ?_⟩))
          | refine Cj.seq rfl ?_
          | refine Cj.region rfl ?_))
    refine Cj.loopP (ι := Nat) (fun i => i ≤ l.length) (fun i => [(1, .slice (some ad) l.length c1), (2, .int .i64 gd), (3, .pointer (some ⟨gc, 0, none⟩)), (8, .slice Ao (putL (o.take m) : List Int).length co), (9, .slice (some ⟨g7, 0, none⟩) ([] : List S35).length 0), (10, .int .i64 (scanB f S i).1), (11, .int .i64 (scanB f S i).2), (12, .int .i64 (i : Int))]) (fun _ => [.row k35 35 0 (.slice (some ⟨g7, 0, none⟩) ([] : List S35).length 0) ([]), .row KI 3 0 (.slice Ao (putL (o.take m) : List Int).length co) (putL (o.take m)), .box gc 26 [.int .i64 wd, .int .i64 ht, .slice A0 cs.length c0]]) (fun _ => [(fun W => Kd.C (Kd.int .i64) W A0 cs.length cs), (fun W => Kd.C k35 W (some ad) l.length l)]) (fun i => l.length - i) rfl 0 (Nat.zero_le _) ⟨rfl, rfl, rfl, rfl, rfl, rfl, rfl, rfl, trivial⟩ (by repeat (first | exact .nil | refine Pick.cons (by repeat (first | exact .z | apply OutAt.s)) ?_)) (fun p hp => hp) (fun i hi => ?_)
    by_cases hil : i < l.length
    · obtain ⟨y, hy⟩ : ∃ y, nth l i z35 = y := ⟨_, rfl⟩
      have hyo : okF wd ht y = true := hy ▸ hoi i hil
      have hyw := wt_b hyo
      have hfy : f (i : Int) = wtF wd ht y := by rw [hfw i hil, hy]
      have huy : ([.int .i64 (l.getD ((i : Nat) : Int).toNat z35).f0, .int .i64 (l.getD ((i : Nat) : Int).toNat z35).f1, .int .i64 (l.getD ((i : Nat) : Int).toNat z35).f2, .int .i64 (l.getD ((i : Nat) : Int).toNat z35).f3] : List Value) = [.int .i64 y.f0, .int .i64 y.f1, .int .i64 y.f2, .int .i64 y.f3] := by
        have hx2 : l.getD i z35 = y := hy
        rw [Int.toNat_natCast, hx2]
      have hscs : scanB f S (i + 1) = if (i : Int) ∉ S ∧ (scanB f S i).2 < f i then ((i : Int), f i) else scanB f S i := rfl
      by_cases hmem : (i : Int) ∈ S
      · have hmb : decide ((i : Int) ∈ putL (o.take m)) = true := by rw [← hS]; exact decide_eq_true hmem
        have hsc : scanB f S (i + 1) = scanB f S i := by rw [hscs, if_neg (fun h => h.1 hmem)]
        repeat (first
            | (apply gateO; first
              | refine Jl.yd (Y.mv rfl rfl) rfl rfl rfl ?_
              | refine Jl.yd (Y.asg rfl rfl) rfl rfl rfl ?_
              | refine Jl.yd (Y.ext rfl rfl rfl) rfl rfl rfl ?_
              | refine Jl.yd (Y.pickT rfl rfl rfl) rfl rfl rfl ?_
              | refine Jl.yd (Y.pickF rfl rfl rfl) rfl rfl rfl ?_
              | refine Jl.off rfl rfl rfl ?_
              | refine Jl.yd (Y.cmpF rfl rfl rfl rfl (by omega)) rfl rfl rfl ?_
              | refine Jl.yd (Y.cmpT rfl rfl rfl rfl (by omega)) rfl rfl rfl ?_
              | refine Jl.yd (Y.neqB rfl rfl rfl Try.underlying4) rfl rfl rfl ?_
              | refine Jl.yd (Y.cmp rfl rfl rfl rfl) rfl rfl rfl ?_
              | refine Jl.yd (Y.not rfl rfl) rfl rfl rfl ?_
              | refine Jl.yd (Y.arithN rfl rfl rfl rfl (by omega)) rfl rfl rfl ?_
              | refine Jl.yd (Y.arith64 rfl rfl rfl rfl) rfl rfl rfl ?_
              | refine Jl.yd (Y.loadA rfl rfl agg26 (by repeat (first | exact .head _ | refine .tail _ ?_)) (by rfl)) rfl rfl rfl ?_
              | refine Jl.yd (Y.lenS Try.underlying27 rfl rfl rfl) rfl rfl rfl ?_
              | refine Jl.yd (Y.idx rfl rfl rfl el27 (by omega) (by omega)) rfl rfl rfl ?_
              | refine Jl.yd (Y.loadK z35 [.int .i64 y.f0, .int .i64 y.f1, .int .i64 y.f2, .int .i64 y.f3] rfl rfl agg35 (by repeat (first | exact memH | refine memT ?_)) (((i : Nat) : Int)) (by omega) (by omega) (by rfl) (fun w cs h => (k35_open h).trans huy) (by rfl)) rfl rfl rfl ?_
              | refine Jl.call1 (v := .int .i64 (wtF wd ht y)) rfl rfl rfl rfl en94 rfl (fun w hW => by with_reducible exact swC hg' hyo A0 c0 w (hW.fact (p := (fun W => Kd.C (Kd.int .i64) W A0 cs.length cs)) (by repeat (first | exact memH | refine memT ?_))) hc) ?_
              | refine Jl.call1 (v := .bool true) rfl rfl rfl rfl en95 rfl (fun w hW => by with_reducible exact hasC hSl hmb (hW.rowC (by repeat (first | exact memH | refine memT ?_))) (hW.rowCap (by repeat (first | exact memH | refine memT ?_))).2) ?_
              | refine Jl.splitG rfl rfl (fun h => ?_) (fun h => ?_))
            | (apply gateE; first
              | refine Jl.nil (Ej.go ?_ (fun _ _ h => h))
              | (refine Jl.nil (Ej.back (fun _ _ h => h) (by repeat (first | exact .refl | apply DropTo.tail)) ?_); repeat (first | exact trivial | refine ⟨rfl, ?_⟩)))
            | (apply gateC; first
              | refine Cj.block rfl ?_
              | refine Cj.regionD rfl (mkD [0, 1, 2, 3, 4, 6] []) [] [0, 1, 2, 3, 4, 5, 6] mixed (by decide +kernel) ?_
              | refine Cj.condF rfl rfl (Cj.skip rfl (Ej.go ?_ (fun _ _ h => h)))
              | (refine Cj.condF rfl rfl (Cj.skip rfl (Ej.back (fun _ _ h => h) (by repeat (first | exact .refl | apply DropTo.tail)) ?_)); repeat (first | exact trivial | refine ⟨rfl, ?_⟩))
              | refine Cj.condF rfl rfl ?_
              | refine Cj.condT rfl rfl ?_
              | refine Cj.exit rfl (Ej.go ?_ (fun _ _ h => h))
              | refine Cj.cond rfl rfl (fun h => ?_) (fun h => ?_)
              | refine Cj.skip rfl (Ej.go ?_ (fun _ _ h => h))
              | (refine Cj.skip rfl (Ej.back (fun _ _ h => h) (by repeat (first | exact .refl | apply DropTo.tail)) ?_); repeat (first | exact trivial | refine ⟨rfl, ?_⟩))
              | refine Cj.seq rfl ?_
              | refine Cj.region rfl ?_))
        refine Jl.nil (Ej.cutP (ι := Nat) _ _ _ _ (fun _ _ h => h) (i + 1) ⟨by (try dsimp only); omega, by (try dsimp only); omega⟩ ⟨rfl, rfl, rfl, rfl, rfl, congrArg some (by (try dsimp only); rw [hsc]), congrArg some (by (try dsimp only); rw [hsc]), rfl, trivial⟩ (by repeat (first | exact .nil | refine Pick.cons (by repeat (first | exact .z | apply OutAt.s)) ?_)) (fun p hp => hp))
      · have hmb : decide ((i : Int) ∈ putL (o.take m)) = false := by rw [← hS]; exact decide_eq_false hmem
        by_cases hgt : (scanB f S i).2 < wtF wd ht y
        · have hsc : scanB f S (i + 1) = ((i : Int), wtF wd ht y) := by rw [hscs, hfy, if_pos ⟨hmem, hgt⟩]
          repeat (first
              | (apply gateO; first
                | refine Jl.yd (Y.mv rfl rfl) rfl rfl rfl ?_
                | refine Jl.yd (Y.asg rfl rfl) rfl rfl rfl ?_
                | refine Jl.yd (Y.ext rfl rfl rfl) rfl rfl rfl ?_
                | refine Jl.yd (Y.pickT rfl rfl rfl) rfl rfl rfl ?_
                | refine Jl.yd (Y.pickF rfl rfl rfl) rfl rfl rfl ?_
                | refine Jl.off rfl rfl rfl ?_
                | refine Jl.yd (Y.cmpF rfl rfl rfl rfl (by omega)) rfl rfl rfl ?_
                | refine Jl.yd (Y.cmpT rfl rfl rfl rfl (by omega)) rfl rfl rfl ?_
                | refine Jl.yd (Y.neqB rfl rfl rfl Try.underlying4) rfl rfl rfl ?_
                | refine Jl.yd (Y.cmp rfl rfl rfl rfl) rfl rfl rfl ?_
                | refine Jl.yd (Y.not rfl rfl) rfl rfl rfl ?_
                | refine Jl.yd (Y.arithN rfl rfl rfl rfl (by omega)) rfl rfl rfl ?_
                | refine Jl.yd (Y.arith64 rfl rfl rfl rfl) rfl rfl rfl ?_
                | refine Jl.yd (Y.loadA rfl rfl agg26 (by repeat (first | exact .head _ | refine .tail _ ?_)) (by rfl)) rfl rfl rfl ?_
                | refine Jl.yd (Y.lenS Try.underlying27 rfl rfl rfl) rfl rfl rfl ?_
                | refine Jl.yd (Y.idx rfl rfl rfl el27 (by omega) (by omega)) rfl rfl rfl ?_
                | refine Jl.yd (Y.loadK z35 [.int .i64 y.f0, .int .i64 y.f1, .int .i64 y.f2, .int .i64 y.f3] rfl rfl agg35 (by repeat (first | exact memH | refine memT ?_)) (((i : Nat) : Int)) (by omega) (by omega) (by rfl) (fun w cs h => (k35_open h).trans huy) (by rfl)) rfl rfl rfl ?_
                | refine Jl.call1 (v := .int .i64 (wtF wd ht y)) rfl rfl rfl rfl en94 rfl (fun w hW => by with_reducible exact swC hg' hyo A0 c0 w (hW.fact (p := (fun W => Kd.C (Kd.int .i64) W A0 cs.length cs)) (by repeat (first | exact memH | refine memT ?_))) hc) ?_
                | refine Jl.call1 (v := .bool false) rfl rfl rfl rfl en95 rfl (fun w hW => by with_reducible exact hasC hSl hmb (hW.rowC (by repeat (first | exact memH | refine memT ?_))) (hW.rowCap (by repeat (first | exact memH | refine memT ?_))).2) ?_
                | refine Jl.splitG rfl rfl (fun h => ?_) (fun h => ?_))
              | (apply gateE; first
                | refine Jl.nil (Ej.go ?_ (fun _ _ h => h))
                | (refine Jl.nil (Ej.back (fun _ _ h => h) (by repeat (first | exact .refl | apply DropTo.tail)) ?_); repeat (first | exact trivial | refine ⟨rfl, ?_⟩)))
              | (apply gateC; first
                | refine Cj.block rfl ?_
                | refine Cj.regionD rfl (mkD [0, 1, 2, 3, 4, 6] []) [] [0, 1, 2, 3, 4, 5, 6] mixed (by decide +kernel) ?_
                | refine Cj.condF rfl rfl (Cj.skip rfl (Ej.go ?_ (fun _ _ h => h)))
                | (refine Cj.condF rfl rfl (Cj.skip rfl (Ej.back (fun _ _ h => h) (by repeat (first | exact .refl | apply DropTo.tail)) ?_)); repeat (first | exact trivial | refine ⟨rfl, ?_⟩))
                | refine Cj.condF rfl rfl ?_
                | refine Cj.condT rfl rfl ?_
                | refine Cj.exit rfl (Ej.go ?_ (fun _ _ h => h))
                | refine Cj.cond rfl rfl (fun h => ?_) (fun h => ?_)
                | refine Cj.skip rfl (Ej.go ?_ (fun _ _ h => h))
                | (refine Cj.skip rfl (Ej.back (fun _ _ h => h) (by repeat (first | exact .refl | apply DropTo.tail)) ?_); repeat (first | exact trivial | refine ⟨rfl, ?_⟩))
                | refine Cj.seq rfl ?_
                | refine Cj.region rfl ?_))
          refine Jl.nil (Ej.cutP (ι := Nat) _ _ _ _ (fun _ _ h => h) (i + 1) ⟨by (try dsimp only); omega, by (try dsimp only); omega⟩ ⟨rfl, rfl, rfl, rfl, rfl, congrArg some (by (try dsimp only); rw [hsc]), congrArg some (by (try dsimp only); rw [hsc]), rfl, trivial⟩ (by repeat (first | exact .nil | refine Pick.cons (by repeat (first | exact .z | apply OutAt.s)) ?_)) (fun p hp => hp))
        · have hsc : scanB f S (i + 1) = scanB f S i := by rw [hscs, hfy, if_neg (fun h => hgt h.2)]
          repeat (first
              | (apply gateO; first
                | refine Jl.yd (Y.mv rfl rfl) rfl rfl rfl ?_
                | refine Jl.yd (Y.asg rfl rfl) rfl rfl rfl ?_
                | refine Jl.yd (Y.ext rfl rfl rfl) rfl rfl rfl ?_
                | refine Jl.yd (Y.pickT rfl rfl rfl) rfl rfl rfl ?_
                | refine Jl.yd (Y.pickF rfl rfl rfl) rfl rfl rfl ?_
                | refine Jl.off rfl rfl rfl ?_
                | refine Jl.yd (Y.cmpF rfl rfl rfl rfl (by omega)) rfl rfl rfl ?_
                | refine Jl.yd (Y.cmpT rfl rfl rfl rfl (by omega)) rfl rfl rfl ?_
                | refine Jl.yd (Y.neqB rfl rfl rfl Try.underlying4) rfl rfl rfl ?_
                | refine Jl.yd (Y.cmp rfl rfl rfl rfl) rfl rfl rfl ?_
                | refine Jl.yd (Y.not rfl rfl) rfl rfl rfl ?_
                | refine Jl.yd (Y.arithN rfl rfl rfl rfl (by omega)) rfl rfl rfl ?_
                | refine Jl.yd (Y.arith64 rfl rfl rfl rfl) rfl rfl rfl ?_
                | refine Jl.yd (Y.loadA rfl rfl agg26 (by repeat (first | exact .head _ | refine .tail _ ?_)) (by rfl)) rfl rfl rfl ?_
                | refine Jl.yd (Y.lenS Try.underlying27 rfl rfl rfl) rfl rfl rfl ?_
                | refine Jl.yd (Y.idx rfl rfl rfl el27 (by omega) (by omega)) rfl rfl rfl ?_
                | refine Jl.yd (Y.loadK z35 [.int .i64 y.f0, .int .i64 y.f1, .int .i64 y.f2, .int .i64 y.f3] rfl rfl agg35 (by repeat (first | exact memH | refine memT ?_)) (((i : Nat) : Int)) (by omega) (by omega) (by rfl) (fun w cs h => (k35_open h).trans huy) (by rfl)) rfl rfl rfl ?_
                | refine Jl.call1 (v := .int .i64 (wtF wd ht y)) rfl rfl rfl rfl en94 rfl (fun w hW => by with_reducible exact swC hg' hyo A0 c0 w (hW.fact (p := (fun W => Kd.C (Kd.int .i64) W A0 cs.length cs)) (by repeat (first | exact memH | refine memT ?_))) hc) ?_
                | refine Jl.call1 (v := .bool false) rfl rfl rfl rfl en95 rfl (fun w hW => by with_reducible exact hasC hSl hmb (hW.rowC (by repeat (first | exact memH | refine memT ?_))) (hW.rowCap (by repeat (first | exact memH | refine memT ?_))).2) ?_
                | refine Jl.splitG rfl rfl (fun h => ?_) (fun h => ?_))
              | (apply gateE; first
                | refine Jl.nil (Ej.go ?_ (fun _ _ h => h))
                | (refine Jl.nil (Ej.back (fun _ _ h => h) (by repeat (first | exact .refl | apply DropTo.tail)) ?_); repeat (first | exact trivial | refine ⟨rfl, ?_⟩)))
              | (apply gateC; first
                | refine Cj.block rfl ?_
                | refine Cj.regionD rfl (mkD [0, 1, 2, 3, 4, 6] []) [] [0, 1, 2, 3, 4, 5, 6] mixed (by decide +kernel) ?_
                | refine Cj.condF rfl rfl (Cj.skip rfl (Ej.go ?_ (fun _ _ h => h)))
                | (refine Cj.condF rfl rfl (Cj.skip rfl (Ej.back (fun _ _ h => h) (by repeat (first | exact .refl | apply DropTo.tail)) ?_)); repeat (first | exact trivial | refine ⟨rfl, ?_⟩))
                | refine Cj.condF rfl rfl ?_
                | refine Cj.condT rfl rfl ?_
                | refine Cj.exit rfl (Ej.go ?_ (fun _ _ h => h))
                | refine Cj.cond rfl rfl (fun h => ?_) (fun h => ?_)
                | refine Cj.skip rfl (Ej.go ?_ (fun _ _ h => h))
                | (refine Cj.skip rfl (Ej.back (fun _ _ h => h) (by repeat (first | exact .refl | apply DropTo.tail)) ?_); repeat (first | exact trivial | refine ⟨rfl, ?_⟩))
                | refine Cj.seq rfl ?_
                | refine Cj.region rfl ?_))
          refine Jl.nil (Ej.cutP (ι := Nat) _ _ _ _ (fun _ _ h => h) (i + 1) ⟨by (try dsimp only); omega, by (try dsimp only); omega⟩ ⟨rfl, rfl, rfl, rfl, rfl, congrArg some (by (try dsimp only); rw [hsc]), congrArg some (by (try dsimp only); rw [hsc]), rfl, trivial⟩ (by repeat (first | exact .nil | refine Pick.cons (by repeat (first | exact .z | apply OutAt.s)) ?_)) (fun p hp => hp))
    · obtain rfl : i = l.length := by omega
      rw [hscan]
      dsimp only
      have hput : ∀ {A : Option Addr} {c : Nat} {w : World}, Kd.C (Kd.int .i64) w A (putL (o.take m)).length (putL (o.take m)) → (putL (o.take m)).length ≤ c → Calls Try.prog 96 #[.slice A (putL (o.take m)).length c, .int .i64 a] w fun e w' => ∃ v, e = .returned v ∧ (Kd.int .i64).R 3 w' w.heap.size (fun _ => True) v (putL (o.take (m + 1))) ∧ Below w.heap.size w w' := fun {A c w} h1 h2 => by
        rw [show putL (o.take (m + 1)) = PU.Put.put (putL (o.take m)) a by rw [List.take_add_one, ha]; exact putL_snoc _ _]
        exact PU.Put.full A c _ a w h1 h2 (by rw [putL_len, List.length_take]; omega) (hS ▸ haS)
      obtain ⟨S', hS'⟩ : ∃ S', S' = putL (o.take (m + 1)) := ⟨_, rfl⟩
      have hSm' : ∀ x, x ∈ S' ↔ x ∈ (ordD f l.length).take (m + 1) := fun x => by rw [hS', hoo]; exact putL_mem _ x
      have hleft := left_sum f (n := l.length) (m := m + 1) hSm'
      rw [hoo] at hleft
      clear hSl
      have hSl : (putL (o.take (m + 1))).length ≤ 2097152 := by rw [putL_len, List.length_take]; omega
      repeat (first
          | (apply gateO; first
            | refine Jl.yd (Y.mv rfl rfl) rfl rfl rfl ?_
            | refine Jl.yd (Y.asg rfl rfl) rfl rfl rfl ?_
            | refine Jl.yd (Y.ext rfl rfl rfl) rfl rfl rfl ?_
            | refine Jl.yd (Y.pickT rfl rfl rfl) rfl rfl rfl ?_
            | refine Jl.yd (Y.pickF rfl rfl rfl) rfl rfl rfl ?_
            | refine Jl.off rfl rfl rfl ?_
            | refine Jl.yd (Y.cmpF rfl rfl rfl rfl (by omega)) rfl rfl rfl ?_
            | refine Jl.yd (Y.cmpT rfl rfl rfl rfl (by omega)) rfl rfl rfl ?_
            | refine Jl.yd (Y.neqB rfl rfl rfl Try.underlying4) rfl rfl rfl ?_
            | refine Jl.yd (Y.cmp rfl rfl rfl rfl) rfl rfl rfl ?_
            | refine Jl.yd (Y.not rfl rfl) rfl rfl rfl ?_
            | refine Jl.yd (Y.arithN rfl rfl rfl rfl (by omega)) rfl rfl rfl ?_
            | refine Jl.yd (Y.arith64 rfl rfl rfl rfl) rfl rfl rfl ?_
            | refine Jl.yd (Y.loadA rfl rfl agg26 (by repeat (first | exact .head _ | refine .tail _ ?_)) (by rfl)) rfl rfl rfl ?_
            | refine Jl.yd (Y.lenS Try.underlying27 rfl rfl rfl) rfl rfl rfl ?_
            | refine Jl.callR 0 (fun v => v) rfl rfl rfl rfl en96 rfl (fun w hW => by with_reducible exact hput (hW.rowC (by repeat (first | exact memH | refine memT ?_))) (hW.rowCap (by repeat (first | exact memH | refine memT ?_))).2) (fun A8 c8 h8 => ?_)
            | refine Jl.splitG rfl rfl (fun h => ?_) (fun h => ?_))
          | (apply gateE; first
            | refine Jl.nil (Ej.go ?_ (fun _ _ h => h))
            | (refine Jl.nil (Ej.back (fun _ _ h => h) (by repeat (first | exact .refl | apply DropTo.tail)) ?_); repeat (first | exact trivial | refine ⟨rfl, ?_⟩)))
          | (apply gateC; first
            | refine Cj.block rfl ?_
            | refine Cj.condF rfl rfl (Cj.skip rfl (Ej.go ?_ (fun _ _ h => h)))
            | (refine Cj.condF rfl rfl (Cj.skip rfl (Ej.back (fun _ _ h => h) (by repeat (first | exact .refl | apply DropTo.tail)) ?_)); repeat (first | exact trivial | refine ⟨rfl, ?_⟩))
            | refine Cj.condF rfl rfl ?_
            | refine Cj.condT rfl rfl ?_
            | refine Cj.exit rfl (Ej.go ?_ (fun _ _ h => h))
            | refine Cj.cond rfl rfl (fun h => ?_) (fun h => ?_)
            | refine Cj.skip rfl (Ej.go ?_ (fun _ _ h => h))
            | (refine Cj.skip rfl (Ej.back (fun _ _ h => h) (by repeat (first | exact .refl | apply DropTo.tail)) ?_); repeat (first | exact trivial | refine ⟨rfl, ?_⟩))
            | refine Cj.seq rfl ?_
            | refine Cj.region rfl ?_))
      refine Cj.loopP (ι := Nat × Option Addr × Nat) (fun q => q.1 ≤ l.length ∧ 0 ≤ q.2.2) (fun q => [(1, .slice (some ad) l.length c1), (2, .int .i64 gd), (3, .pointer (some ⟨gc, 0, none⟩)), (8, .slice A8 (putL (o.take (m + 1)) : List Int).length c8), (9, .slice q.2.1 (leftA l S' q.1 : List S35).length q.2.2), (14, .int .i64 (q.1 : Int))]) (fun q => [.row k35 35 0 (.slice q.2.1 (leftA l S' q.1 : List S35).length q.2.2) (leftA l S' q.1), .row KI 3 0 (.slice A8 (putL (o.take (m + 1)) : List Int).length c8) (putL (o.take (m + 1))), .box gc 26 [.int .i64 wd, .int .i64 ht, .slice A0 cs.length c0]]) (fun _ => [(fun W => Kd.C (Kd.int .i64) W A0 cs.length cs), (fun W => Kd.C k35 W (some ad) l.length l)]) (fun q => l.length - q.1) rfl (0, some ⟨g7, 0, none⟩, 0) ⟨Nat.zero_le _, Nat.zero_le _⟩ ⟨rfl, rfl, rfl, rfl, rfl, rfl, trivial⟩ (by repeat (first | exact .nil | refine Pick.cons (by repeat (first | exact .z | apply OutAt.s)) ?_)) (fun p hp => hp) (fun q hq => ?_)
      obtain ⟨j, Ar, cr⟩ := q
      dsimp only at hq ⊢
      obtain ⟨hj, _⟩ := hq
      have hal := leftA_len l S' j
      by_cases hjl : j < l.length
      · obtain ⟨y, hy⟩ : ∃ y, nth l j z35 = y := ⟨_, rfl⟩
        have huy : ([.int .i64 (l.getD ((j : Nat) : Int).toNat z35).f0, .int .i64 (l.getD ((j : Nat) : Int).toNat z35).f1, .int .i64 (l.getD ((j : Nat) : Int).toNat z35).f2, .int .i64 (l.getD ((j : Nat) : Int).toNat z35).f3] : List Value) = [.int .i64 y.f0, .int .i64 y.f1, .int .i64 y.f2, .int .i64 y.f3] := by
          have hx2 : l.getD j z35 = y := hy
          rw [Int.toNat_natCast, hx2]
        by_cases hmem : (j : Int) ∈ S'
        · have hmb : decide ((j : Int) ∈ putL (o.take (m + 1))) = true := by rw [← hS']; exact decide_eq_true hmem
          have hacc := leftA_in (l := l) hmem
          repeat (first
              | (apply gateO; first
                | refine Jl.yd (Y.mv rfl rfl) rfl rfl rfl ?_
                | refine Jl.yd (Y.asg rfl rfl) rfl rfl rfl ?_
                | refine Jl.yd (Y.ext rfl rfl rfl) rfl rfl rfl ?_
                | refine Jl.yd (Y.pickT rfl rfl rfl) rfl rfl rfl ?_
                | refine Jl.yd (Y.pickF rfl rfl rfl) rfl rfl rfl ?_
                | refine Jl.off rfl rfl rfl ?_
                | refine Jl.yd (Y.cmpF rfl rfl rfl rfl (by omega)) rfl rfl rfl ?_
                | refine Jl.yd (Y.cmpT rfl rfl rfl rfl (by omega)) rfl rfl rfl ?_
                | refine Jl.yd (Y.neqB rfl rfl rfl Try.underlying4) rfl rfl rfl ?_
                | refine Jl.yd (Y.cmp rfl rfl rfl rfl) rfl rfl rfl ?_
                | refine Jl.yd (Y.not rfl rfl) rfl rfl rfl ?_
                | refine Jl.yd (Y.arithN rfl rfl rfl rfl (by omega)) rfl rfl rfl ?_
                | refine Jl.yd (Y.arith64 rfl rfl rfl rfl) rfl rfl rfl ?_
                | refine Jl.yd (Y.loadA rfl rfl agg26 (by repeat (first | exact .head _ | refine .tail _ ?_)) (by rfl)) rfl rfl rfl ?_
                | refine Jl.yd (Y.lenS Try.underlying27 rfl rfl rfl) rfl rfl rfl ?_
                | refine Jl.call1 (v := .bool true) rfl rfl rfl rfl en95 rfl (fun w hW => by with_reducible exact hasC hSl hmb (hW.rowC (by repeat (first | exact memH | refine memT ?_))) (hW.rowCap (by repeat (first | exact memH | refine memT ?_))).2) ?_
                | refine Jl.yd (Y.idx rfl rfl rfl el27 (by omega) (by omega)) rfl rfl rfl ?_
                | refine Jl.yd (Y.loadK z35 [.int .i64 y.f0, .int .i64 y.f1, .int .i64 y.f2, .int .i64 y.f3] rfl rfl agg35 (by repeat (first | exact memH | refine memT ?_)) (((j : Nat) : Int)) (by omega) (by omega) (by rfl) (fun w cs h => (k35_open h).trans huy) (by rfl)) rfl rfl rfl ?_
                | refine Jl.litS (us := [.int .i64 y.f0, .int .i64 y.f1, .int .i64 y.f2, .int .i64 y.f3]) (zs := [.int .i64 0, .int .i64 0, .int .i64 0, .int .i64 0]) rfl rfl rfl rfl rfl el27 zero35 rfl rfl (fill4 _ _ _ _ _ _ _ _) (fun g9 => ?_)
                | refine Jl.app (dk := k35) (xs := leftA l S' j) y (fun _ => False) rfl rfl rfl rfl rfl rfl ap27 (by repeat (first | exact .head _ | refine .tail _ ?_)) rfl (fun w => k35_mkM w 0 (fun _ => False) y) (IF.encO y) (by repeat (first | exact .z | apply OutAt.s)) (by omega) (by omega) (fun A9 c9 h9 => ?_)
                | refine Jl.splitG rfl rfl (fun h => ?_) (fun h => ?_))
              | (apply gateE; first
                | refine Jl.nil (Ej.go ?_ (fun _ _ h => h))
                | (refine Jl.nil (Ej.back (fun _ _ h => h) (by repeat (first | exact .refl | apply DropTo.tail)) ?_); repeat (first | exact trivial | refine ⟨rfl, ?_⟩)))
              | (apply gateC; first
                | refine Cj.block rfl ?_
                | refine Cj.condF rfl rfl (Cj.skip rfl (Ej.go ?_ (fun _ _ h => h)))
                | (refine Cj.condF rfl rfl (Cj.skip rfl (Ej.back (fun _ _ h => h) (by repeat (first | exact .refl | apply DropTo.tail)) ?_)); repeat (first | exact trivial | refine ⟨rfl, ?_⟩))
                | refine Cj.condF rfl rfl ?_
                | refine Cj.condT rfl rfl ?_
                | refine Cj.exit rfl (Ej.go ?_ (fun _ _ h => h))
                | refine Cj.cond rfl rfl (fun h => ?_) (fun h => ?_)
                | refine Cj.skip rfl (Ej.go ?_ (fun _ _ h => h))
                | (refine Cj.skip rfl (Ej.back (fun _ _ h => h) (by repeat (first | exact .refl | apply DropTo.tail)) ?_); repeat (first | exact trivial | refine ⟨rfl, ?_⟩))
                | refine Cj.seq rfl ?_
                | refine Cj.region rfl ?_))
          refine Jl.nil (Ej.cutP (ι := Nat × Option Addr × Nat) _ _ _ _ (fun _ _ h => h) (j + 1, Ar, cr) ⟨⟨by (try dsimp only); omega, Nat.zero_le _⟩, by (try dsimp only); omega⟩ ⟨rfl, rfl, rfl, rfl, congrArg some (by (try dsimp only); rw [hacc]), rfl, trivial⟩ (by (try dsimp only); rw [hacc]; exact (by repeat (first | exact .nil | refine Pick.cons (by repeat (first | exact .z | apply OutAt.s)) ?_))) (fun p hp => hp))
        · have hmb : decide ((j : Int) ∈ putL (o.take (m + 1))) = false := by rw [← hS']; exact decide_eq_false hmem
          have hacc := leftA_out (l := l) hmem
          rw [hy] at hacc
          repeat (first
              | (apply gateO; first
                | refine Jl.yd (Y.mv rfl rfl) rfl rfl rfl ?_
                | refine Jl.yd (Y.asg rfl rfl) rfl rfl rfl ?_
                | refine Jl.yd (Y.ext rfl rfl rfl) rfl rfl rfl ?_
                | refine Jl.yd (Y.pickT rfl rfl rfl) rfl rfl rfl ?_
                | refine Jl.yd (Y.pickF rfl rfl rfl) rfl rfl rfl ?_
                | refine Jl.off rfl rfl rfl ?_
                | refine Jl.yd (Y.cmpF rfl rfl rfl rfl (by omega)) rfl rfl rfl ?_
                | refine Jl.yd (Y.cmpT rfl rfl rfl rfl (by omega)) rfl rfl rfl ?_
                | refine Jl.yd (Y.neqB rfl rfl rfl Try.underlying4) rfl rfl rfl ?_
                | refine Jl.yd (Y.cmp rfl rfl rfl rfl) rfl rfl rfl ?_
                | refine Jl.yd (Y.not rfl rfl) rfl rfl rfl ?_
                | refine Jl.yd (Y.arithN rfl rfl rfl rfl (by omega)) rfl rfl rfl ?_
                | refine Jl.yd (Y.arith64 rfl rfl rfl rfl) rfl rfl rfl ?_
                | refine Jl.yd (Y.loadA rfl rfl agg26 (by repeat (first | exact .head _ | refine .tail _ ?_)) (by rfl)) rfl rfl rfl ?_
                | refine Jl.yd (Y.lenS Try.underlying27 rfl rfl rfl) rfl rfl rfl ?_
                | refine Jl.call1 (v := .bool false) rfl rfl rfl rfl en95 rfl (fun w hW => by with_reducible exact hasC hSl hmb (hW.rowC (by repeat (first | exact memH | refine memT ?_))) (hW.rowCap (by repeat (first | exact memH | refine memT ?_))).2) ?_
                | refine Jl.yd (Y.idx rfl rfl rfl el27 (by omega) (by omega)) rfl rfl rfl ?_
                | refine Jl.yd (Y.loadK z35 [.int .i64 y.f0, .int .i64 y.f1, .int .i64 y.f2, .int .i64 y.f3] rfl rfl agg35 (by repeat (first | exact memH | refine memT ?_)) (((j : Nat) : Int)) (by omega) (by omega) (by rfl) (fun w cs h => (k35_open h).trans huy) (by rfl)) rfl rfl rfl ?_
                | refine Jl.litS (us := [.int .i64 y.f0, .int .i64 y.f1, .int .i64 y.f2, .int .i64 y.f3]) (zs := [.int .i64 0, .int .i64 0, .int .i64 0, .int .i64 0]) rfl rfl rfl rfl rfl el27 zero35 rfl rfl (fill4 _ _ _ _ _ _ _ _) (fun g9 => ?_)
                | refine Jl.app (dk := k35) (xs := leftA l S' j) y (fun _ => False) rfl rfl rfl rfl rfl rfl ap27 (by repeat (first | exact .head _ | refine .tail _ ?_)) rfl (fun w => k35_mkM w 0 (fun _ => False) y) (IF.encO y) (by repeat (first | exact .z | apply OutAt.s)) (by omega) (by omega) (fun A9 c9 h9 => ?_)
                | refine Jl.splitG rfl rfl (fun h => ?_) (fun h => ?_))
              | (apply gateE; first
                | refine Jl.nil (Ej.go ?_ (fun _ _ h => h))
                | (refine Jl.nil (Ej.back (fun _ _ h => h) (by repeat (first | exact .refl | apply DropTo.tail)) ?_); repeat (first | exact trivial | refine ⟨rfl, ?_⟩)))
              | (apply gateC; first
                | refine Cj.block rfl ?_
                | refine Cj.condF rfl rfl (Cj.skip rfl (Ej.go ?_ (fun _ _ h => h)))
                | (refine Cj.condF rfl rfl (Cj.skip rfl (Ej.back (fun _ _ h => h) (by repeat (first | exact .refl | apply DropTo.tail)) ?_)); repeat (first | exact trivial | refine ⟨rfl, ?_⟩))
                | refine Cj.condF rfl rfl ?_
                | refine Cj.condT rfl rfl ?_
                | refine Cj.exit rfl (Ej.go ?_ (fun _ _ h => h))
                | refine Cj.cond rfl rfl (fun h => ?_) (fun h => ?_)
                | refine Cj.skip rfl (Ej.go ?_ (fun _ _ h => h))
                | (refine Cj.skip rfl (Ej.back (fun _ _ h => h) (by repeat (first | exact .refl | apply DropTo.tail)) ?_); repeat (first | exact trivial | refine ⟨rfl, ?_⟩))
                | refine Cj.seq rfl ?_
                | refine Cj.region rfl ?_))
          refine Jl.nil (Ej.cutP (ι := Nat × Option Addr × Nat) _ _ _ _ (fun _ _ h => h) (j + 1, A9, c9) ⟨⟨by (try dsimp only); omega, Nat.zero_le _⟩, by (try dsimp only); omega⟩ ⟨rfl, rfl, rfl, rfl, congrArg some (by (try dsimp only); rw [hacc]), rfl, trivial⟩ (by (try dsimp only); rw [hacc]; exact (by repeat (first | exact .nil | refine Pick.cons (by repeat (first | exact .z | apply OutAt.s)) ?_))) (fun p hp => hp))
      · obtain rfl : j = l.length := by omega
        repeat (first
            | (apply gateO; first
              | refine Jl.yd (Y.mv rfl rfl) rfl rfl rfl ?_
              | refine Jl.yd (Y.asg rfl rfl) rfl rfl rfl ?_
              | refine Jl.yd (Y.ext rfl rfl rfl) rfl rfl rfl ?_
              | refine Jl.yd (Y.pickT rfl rfl rfl) rfl rfl rfl ?_
              | refine Jl.yd (Y.pickF rfl rfl rfl) rfl rfl rfl ?_
              | refine Jl.off rfl rfl rfl ?_
              | refine Jl.yd (Y.cmpF rfl rfl rfl rfl (by omega)) rfl rfl rfl ?_
              | refine Jl.yd (Y.cmpT rfl rfl rfl rfl (by omega)) rfl rfl rfl ?_
              | refine Jl.yd (Y.neqB rfl rfl rfl Try.underlying4) rfl rfl rfl ?_
              | refine Jl.yd (Y.cmp rfl rfl rfl rfl) rfl rfl rfl ?_
              | refine Jl.yd (Y.not rfl rfl) rfl rfl rfl ?_
              | refine Jl.yd (Y.arithN rfl rfl rfl rfl (by omega)) rfl rfl rfl ?_
              | refine Jl.yd (Y.arith64 rfl rfl rfl rfl) rfl rfl rfl ?_
              | refine Jl.yd (Y.loadA rfl rfl agg26 (by repeat (first | exact .head _ | refine .tail _ ?_)) (by rfl)) rfl rfl rfl ?_
              | refine Jl.yd (Y.lenS Try.underlying27 rfl rfl rfl) rfl rfl rfl ?_
              | refine Jl.splitG rfl rfl (fun h => ?_) (fun h => ?_))
            | (apply gateE; first
              | refine Jl.nil (Ej.go ?_ (fun _ _ h => h))
              | (refine Jl.nil (Ej.back (fun _ _ h => h) (by repeat (first | exact .refl | apply DropTo.tail)) ?_); repeat (first | exact trivial | refine ⟨rfl, ?_⟩)))
            | (apply gateC; first
              | refine Cj.block rfl ?_
              | refine Cj.condF rfl rfl (Cj.skip rfl (Ej.go ?_ (fun _ _ h => h)))
              | (refine Cj.condF rfl rfl (Cj.skip rfl (Ej.back (fun _ _ h => h) (by repeat (first | exact .refl | apply DropTo.tail)) ?_)); repeat (first | exact trivial | refine ⟨rfl, ?_⟩))
              | refine Cj.condF rfl rfl ?_
              | refine Cj.condT rfl rfl ?_
              | refine Cj.exit rfl (Ej.go ?_ (fun _ _ h => h))
              | refine Cj.cond rfl rfl (fun h => ?_) (fun h => ?_)
              | refine Cj.skip rfl (Ej.go ?_ (fun _ _ h => h))
              | (refine Cj.skip rfl (Ej.back (fun _ _ h => h) (by repeat (first | exact .refl | apply DropTo.tail)) ?_); repeat (first | exact trivial | refine ⟨rfl, ?_⟩))
              | refine Cj.seq rfl ?_
              | refine Cj.region rfl ?_))
        refine Cj.exit rfl (Ej.cutP (ι := Nat × Int × (Option Addr × Nat) × (Option Addr × Nat × List S35)) _ _ _ _ (fun _ _ h => h) (m + 1, s - f a, (A8, c8), (Ar, cr, leftA l S' l.length)) ⟨⟨⟨by (try dsimp only); omega, hst, hs2⟩, by (try dsimp only); omega, leftA_ok (Nat.le_refl _) ho, by (try dsimp only); rw [leftA_sum, hf, hleft, hs2]⟩, by (try dsimp only); omega⟩ ⟨rfl, rfl, rfl, rfl, rfl, trivial⟩ (by repeat (first | exact .nil | refine Pick.cons (by repeat (first | exact .z | apply OutAt.s)) ?_)) (fun p hp => hp))
  · have hmd : needD f gd (wsum wd ht l) o = m := by
      rcases Nat.lt_or_ge m o.length with h | h
      · exact (need_step f hq2 (List.getElem?_eq_getElem h)).2 hlt
      · rw [hq2, List.drop_eq_nil_of_le h]; rfl
    repeat (first
        | (apply gateO; first
          | refine Jl.yd (Y.mv rfl rfl) rfl rfl rfl ?_
          | refine Jl.yd (Y.asg rfl rfl) rfl rfl rfl ?_
          | refine Jl.yd (Y.ext rfl rfl rfl) rfl rfl rfl ?_
          | refine Jl.yd (Y.pickT rfl rfl rfl) rfl rfl rfl ?_
          | refine Jl.yd (Y.pickF rfl rfl rfl) rfl rfl rfl ?_
          | refine Jl.off rfl rfl rfl ?_
          | refine Jl.yd (Y.cmpF rfl rfl rfl rfl (by omega)) rfl rfl rfl ?_
          | refine Jl.yd (Y.cmpT rfl rfl rfl rfl (by omega)) rfl rfl rfl ?_
          | refine Jl.yd (Y.neqB rfl rfl rfl Try.underlying4) rfl rfl rfl ?_
          | refine Jl.yd (Y.cmp rfl rfl rfl rfl) rfl rfl rfl ?_
          | refine Jl.yd (Y.not rfl rfl) rfl rfl rfl ?_
          | refine Jl.yd (Y.arithN rfl rfl rfl rfl (by omega)) rfl rfl rfl ?_
          | refine Jl.yd (Y.arith64 rfl rfl rfl rfl) rfl rfl rfl ?_
          | refine Jl.yd (Y.loadA rfl rfl agg26 (by repeat (first | exact .head _ | refine .tail _ ?_)) (by rfl)) rfl rfl rfl ?_
          | refine Jl.yd (Y.lenS Try.underlying27 rfl rfl rfl) rfl rfl rfl ?_
          | refine Jl.call1 (v := .int .i64 (mx (100 - wsum wd ht LL) 0)) rfl rfl rfl rfl en93 rfl (fun w hW => by with_reducible exact ptsC hg' hLo hLn (hW.fact (p := (fun W => Kd.C (Kd.int .i64) W A0 cs.length cs)) (by repeat (first | exact memH | refine memT ?_))) hc (hW.rowC (by repeat (first | exact memH | refine memT ?_))) (hW.rowCap (by repeat (first | exact memH | refine memT ?_))).2) ?_
          | refine Jl.call1 (v := .int .i64 (gr s)) rfl rfl rfl rfl en92 rfl (fun w hW => by with_reducible exact hgr w) ?_
          | refine Jl.splitG rfl rfl (fun h => ?_) (fun h => ?_))
        | (apply gateE; first
          | refine Jl.nil (Ej.go ?_ (fun _ _ h => h))
          | (refine Jl.nil (Ej.back (fun _ _ h => h) (by repeat (first | exact .refl | apply DropTo.tail)) ?_); repeat (first | exact trivial | refine ⟨rfl, ?_⟩)))
        | (apply gateC; first
          | refine Cj.block rfl ?_
          | refine Cj.ret rfl (Ej.out2 (P := Try.prog) (fn := Try.f15) (R := Rr) (fun _ _ h => h) rfl rfl rfl (fun w' hW => ⟨_, rfl, by rw [hmd]; exact outI hW (by repeat (first | exact .nil | refine Pick.cons (by repeat (first | exact .z | apply OutAt.s)) ?_)), hW.below⟩))
          | refine Cj.condF rfl rfl (Cj.skip rfl (Ej.go ?_ (fun _ _ h => h)))
          | (refine Cj.condF rfl rfl (Cj.skip rfl (Ej.back (fun _ _ h => h) (by repeat (first | exact .refl | apply DropTo.tail)) ?_)); repeat (first | exact trivial | refine ⟨rfl, ?_⟩))
          | refine Cj.condF rfl rfl ?_
          | refine Cj.condT rfl rfl ?_
          | refine Cj.exit rfl (Ej.go ?_ (fun _ _ h => h))
          | refine Cj.cond rfl rfl (fun h => ?_) (fun h => ?_)
          | refine Cj.skip rfl (Ej.go ?_ (fun _ _ h => h))
          | (refine Cj.skip rfl (Ej.back (fun _ _ h => h) (by repeat (first | exact .refl | apply DropTo.tail)) ?_); repeat (first | exact trivial | refine ⟨rfl, ?_⟩))
          | refine Cj.seq rfl ?_
          | refine Cj.region rfl ?_))
end FR
end Go.Proofs.Ytkglpfdoefdhdaa.WK

namespace Go.Proofs.Ytkglpfdoefdhdaa.WK
open Go Go.RowKit Go.Proofs.Ytkglpfdoefdhdaa.Q Go.Proofs.Ytkglpfdoefdhdaa.M Go.Proofs.YtkglpfdoefdhdaaW.PrintWords Go.Proofs.YtkglpfdoefdhdaaW.SL
open Go.Proofs.YtkglpfdoefdhdaaW.Pl (nth nth_get nth_mem)
set_option linter.unusedSimpArgs false
set_option linter.unusedVariables false
set_option maxRecDepth 100000
namespace FRL
open MO (agg26 mixed)
open FW
open FR (wI friNo friNoG friYes frsNo frsNoG frsYes)
theorem agg46 : AggT Try.prog 46 3 := ⟨by kernel_rfl⟩
theorem sz26 : SzT Try.prog 26 3 := ⟨by kernel_rfl⟩
theorem zero26 : ZeroT Try.prog 26 [.int .i64 0, .int .i64 0, .slice none 0 0] := ⟨by kernel_rfl⟩
theorem en27 : Ent Try.prog 27 := ⟨enters_of Try.func27 (by kernel_rfl) rfl⟩
theorem en28 : Ent Try.prog 28 := ⟨enters_of Try.func28 (by kernel_rfl) rfl⟩
theorem en29 : Ent Try.prog 29 := ⟨enters_of Try.func29 (by kernel_rfl) rfl⟩
theorem en30 : Ent Try.prog 30 := ⟨enters_of Try.func30 (by kernel_rfl) rfl⟩
theorem en15 : Ent Try.prog 15 := ⟨enters_of Try.func15 (by kernel_rfl) rfl⟩
theorem en14 : Ent Try.prog 14 := ⟨enters_of Try.func14 (by kernel_rfl) rfl⟩
theorem en37 : Ent Try.prog 37 := ⟨enters_of Try.func37 (by kernel_rfl) rfl⟩
theorem en33 : Ent Try.prog 33 := ⟨enters_of Try.func33 (by kernel_rfl) rfl⟩
theorem en32 : Ent Try.prog 32 := ⟨enters_of Try.func32 (by kernel_rfl) rfl⟩
theorem en34 : Ent Try.prog 34 := ⟨enters_of Try.func34 (by kernel_rfl) rfl⟩
theorem en35 : Ent Try.prog 35 := ⟨enters_of Try.func35 (by kernel_rfl) rfl⟩
theorem en38 : Ent Try.prog 38 := ⟨enters_of Try.func38 (by kernel_rfl) rfl⟩
theorem en39 : Ent Try.prog 39 := ⟨enters_of Try.func39 (by kernel_rfl) rfl⟩
theorem held_n {k n c m : Nat} {r : Int} {w : World} {A : Option Addr} (hn : n = (marks m).length) (hr : Kd.C (Kd.int .i64) w A (marks m).length (marks m)) (hc : (marks m).length ≤ c) (h : laws_heldIntS.f k (marks m) 1 = some r) : Calls Try.prog 39 #[.slice A n c, .int .i64 1] w fun e w' => e = .returned (.int .i64 r) ∧ Below w.heap.size w w' := by
  subst hn
  exact (laws_heldIntS.calls k A c (marks m) 1 r w hr hc h).mono (fun _ _ hh => ⟨hh.1, hh.2.below⟩)
def feQ (wd ht : Int) (cs : List Int) (l : List S35) (gd : Int) : List Int × Bool := if (goodF wd ht cs l && decide (1 ≤ gd ∧ gd ≤ 4)) = true then (putL ((ordD (wI wd ht l) l.length).take (needD (wI wd ht l) gd (wsum wd ht l) (ordD (wI wd ht l) l.length))), true) else ([], false)
theorem feQ_len (wd ht : Int) (cs : List Int) (l : List S35) (gd : Int) : (feQ wd ht cs l gd).1.length ≤ l.length := by
  unfold feQ
  split
  · show (putL _).length ≤ _
    rw [putL_len, List.length_take, ordD_len]
    exact Nat.min_le_right _ _
  · exact Nat.zero_le _
theorem feQ_no {wd ht : Int} {cs : List Int} {l : List S35} {gd : Int} (h : (goodF wd ht cs l && decide (1 ≤ gd ∧ gd ≤ 4)) = false) : feQ wd ht cs l gd = ([], false) := by unfold feQ; rw [h]; rfl
theorem feQ_yes {wd ht : Int} {cs : List Int} {l : List S35} {gd : Int} (h : (goodF wd ht cs l && decide (1 ≤ gd ∧ gd ≤ 4)) = true) : feQ wd ht cs l gd = (putL ((ordD (wI wd ht l) l.length).take (needD (wI wd ht l) gd (wsum wd ht l) (ordD (wI wd ht l) l.length))), true) := by unfold feQ; rw [h]; rfl
theorem sM {wd ht : Int} {cs : List Int} {l : List S35} (gd : Int) (A0 : Option Addr) (c0 : Nat) (A1 : Option Addr) (c1 : Nat) (w : World) (hrC : Kd.C (Kd.int .i64) w A0 cs.length cs) (hc : cs.length ≤ c0) (hrH : Kd.C k35 w A1 l.length l) (hcl : l.length ≤ c1) (hlb : l.length ≤ 1048576) (hcb : cs.length ≤ 1048576) : Calls Try.prog 15 #[.agg #[.int .i64 wd, .int .i64 ht, .slice A0 cs.length c0], .slice A1 l.length c1, .int .i64 gd] w fun e w' => ∃ v, e = .returned (.tuple #[v, .bool (feQ wd ht cs l gd).2]) ∧ (Kd.int .i64).R 3 w' w.heap.size (fun _ => True) v (feQ wd ht cs l gd).1 ∧ Below w.heap.size w w' := by
  cases hg : goodF wd ht cs l with
  | false => rw [feQ_no (by rw [hg]; rfl)]; exact frsNo gd A0 c0 A1 c1 w hrC hc hrH hcl hlb hcb hg
  | true =>
    cases hin : decide (1 ≤ gd ∧ gd ≤ 4) with
    | false => rw [feQ_no (by rw [hg, hin]; rfl)]; exact frsNoG gd A0 c0 A1 c1 w hrC hc hrH hcl hlb hcb hg hin
    | true => rw [feQ_yes (by rw [hg, hin]; rfl)]; exact frsYes gd A0 c0 A1 c1 w hrC hc hrH hcl hlb hcb hg hin _ rfl _ rfl
theorem iM {wd ht : Int} {cs : List Int} {l : List S35} (gd : Int) (A0 : Option Addr) (c0 : Nat) (A1 : Option Addr) (c1 : Nat) (w : World) (hrC : Kd.C (Kd.int .i64) w A0 cs.length cs) (hc : cs.length ≤ c0) (hrH : Kd.C k35 w A1 l.length l) (hcl : l.length ≤ c1) (hlb : l.length ≤ 1048576) : Calls Try.prog 14 #[.agg #[.int .i64 wd, .int .i64 ht, .slice A0 cs.length c0], .slice A1 l.length c1, .int .i64 gd] w fun e w' => ∃ v, e = .returned (.tuple #[v, .bool (feQ wd ht cs l gd).2]) ∧ (Kd.int .i64).R 3 w' w.heap.size (fun _ => True) v (feQ wd ht cs l gd).1 ∧ Below w.heap.size w w' := by
  cases hg : goodF wd ht cs l with
  | false => rw [feQ_no (by rw [hg]; rfl)]; exact friNo gd A0 c0 A1 c1 w hrC hc hrH hcl hlb hg
  | true =>
    cases hin : decide (1 ≤ gd ∧ gd ≤ 4) with
    | false => rw [feQ_no (by rw [hg, hin]; rfl)]; exact friNoG gd A0 c0 A1 c1 w hrC hc hrH hcl hlb hg hin
    | true =>
      rw [feQ_yes (by rw [hg, hin]; rfl), ← sortI_putL _ ((ordD_nodup _ _).sublist (List.take_sublist _ _))]
      exact friYes gd A0 c0 A1 c1 w hrC hc hrH hcl hlb hg hin
set_option maxHeartbeats 2000000 in
theorem walkA (wd ht : Int) (cs : List Int) (l0 : List S48) (gd : Int) (A0 : Option Addr) (c0 : Nat) (A1 : Option Addr) (c1 : Nat) (w : World) (hr0 : Kd.C (Kd.int .i64) w A0 cs.length cs) (hc0 : cs.length ≤ c0) (hr1 : Kd.C k48 w A1 l0.length l0) (hc1 : l0.length ≤ c1) (r : Int) (hz : laws_szChart.f wd ht cs 1048576 = some r) (hr : r < 0) : Calls Try.prog 5 #[.agg #[.int .i64 wd, .int .i64 ht, .slice A0 cs.length c0], .slice A1 l0.length c1, .int .i64 gd] w fun e w' => e = .returned (.bool true) ∧ Below w.heap.size w w' := by
  refine enterW (args := [.agg #[.int .i64 wd, .int .i64 ht, .slice A0 cs.length c0], .slice A1 l0.length c1, .int .i64 gd]) [(fun W => Kd.C (Kd.int .i64) W A0 cs.length cs), (fun W => Kd.C k48 W A1 l0.length l0)] (fun p hp W hb => by
    rcases List.mem_cons.1 hp with rfl | hp
    · exact Kd.C_below hr0 hb
    · rw [List.mem_singleton.1 hp]; exact Kd.C_below hr1 hb) Try.func5 rfl rfl ?_
  repeat (first
    | (apply gateO; first
      | refine Jl.yd (Y.mv rfl rfl) rfl rfl rfl ?_
      | refine Jl.yd (Y.asg rfl rfl) rfl rfl rfl ?_
      | refine Jl.yd (Y.ext rfl rfl rfl) rfl rfl rfl ?_
      | refine Jl.yd (Y.pickT rfl rfl rfl) rfl rfl rfl ?_
      | refine Jl.yd (Y.pickF rfl rfl rfl) rfl rfl rfl ?_
      | refine Jl.off rfl rfl rfl ?_
      | refine Jl.yd (Y.cmpF rfl rfl rfl rfl (by omega)) rfl rfl rfl ?_
      | refine Jl.yd (Y.cmpT rfl rfl rfl rfl (by omega)) rfl rfl rfl ?_
      | refine Jl.yd (Y.neqB rfl rfl rfl Try.underlying4) rfl rfl rfl ?_
      | refine Jl.yd (Y.cmp rfl rfl rfl rfl) rfl rfl rfl ?_
      | refine Jl.yd (Y.not rfl rfl) rfl rfl rfl ?_
      | refine Jl.yd (Y.arithN rfl rfl rfl rfl (by omega)) rfl rfl rfl ?_
      | refine Jl.yd (Y.arith64 rfl rfl rfl rfl) rfl rfl rfl ?_
      | refine Jl.yd (Y.loadA rfl rfl agg46 (by repeat (first | exact .head _ | refine .tail _ ?_)) (by rfl)) rfl rfl rfl ?_
      | refine Jl.yd (Y.loadA rfl rfl agg26 (by repeat (first | exact .head _ | refine .tail _ ?_)) (by rfl)) rfl rfl rfl ?_
      | refine Jl.alloc rfl rfl rfl rfl zero26 (fun g => ?_)
      | refine Jl.storeA rfl rfl rfl rfl rfl sz26 (by repeat (first | exact .z | apply SetAt.s)) (by rfl) (by rfl) ?_
      | refine Jl.call1 (v := .int .i64 r) rfl rfl rfl rfl en27 rfl (fun w hW => by with_reducible first | exact laws_szChart.calls wd ht _ _ cs 1048576 r w (hW.fact (p := (fun W => Kd.C (Kd.int .i64) W A0 cs.length cs)) (by repeat (first | exact memH | refine memT ?_))) hc0 hz | exact Calls.mono (laws_szChart.calls wd ht _ _ cs 1048576 r w (hW.fact (p := (fun W => Kd.C (Kd.int .i64) W A0 cs.length cs)) (by repeat (first | exact memH | refine memT ?_))) hc0 hz) (fun _ _ hh => ⟨hh.1, hh.2.below⟩)) ?_
      | refine Jl.box (zs := [.int .i64 wd, .int .i64 ht, .slice A0 cs.length c0]) rfl rfl rfl rfl rfl (by rfl) (fun g => ?_)
      | refine Jl.splitG rfl rfl (fun h => ?_) (fun h => ?_))
    | (apply gateE; first
      | refine Jl.nil (Ej.go ?_ (fun _ _ h => h))
      | (refine Jl.nil (Ej.back (fun _ _ h => h) (by repeat (first | exact .refl | apply DropTo.tail)) ?_); repeat (first | exact trivial | refine ⟨rfl, ?_⟩)))
    | (apply gateC; first
      | refine Cj.ret rfl (Ej.out1 (P := Try.prog) (fn := Try.f5) (R := fun e w' => e = .returned (.bool true) ∧ Below w.heap.size w w') (fun _ _ h => h) rfl rfl (fun w hW => ⟨rfl, hW.below⟩))
      | refine Cj.condF rfl rfl (Cj.skip rfl (Ej.go ?_ (fun _ _ h => h)))
      | (refine Cj.condF rfl rfl (Cj.skip rfl (Ej.back (fun _ _ h => h) (by repeat (first | exact .refl | apply DropTo.tail)) ?_)); repeat (first | exact trivial | refine ⟨rfl, ?_⟩))
      | refine Cj.condF rfl rfl ?_
      | refine Cj.condT rfl rfl ?_
      | refine Cj.exit rfl (Ej.go ?_ (fun _ _ h => h))
      | refine Cj.cond rfl rfl (fun h => ?_) (fun h => ?_)
      | refine Cj.skip rfl (Ej.go ?_ (fun _ _ h => h))
      | (refine Cj.skip rfl (Ej.back (fun _ _ h => h) (by repeat (first | exact .refl | apply DropTo.tail)) ?_); repeat (first | exact trivial | refine ⟨rfl, ?_⟩))
      | refine Cj.seq rfl ?_
      | refine Cj.region rfl ?_))

set_option maxHeartbeats 2000000 in
theorem walkB (wd ht : Int) (cs : List Int) (l0 : List S48) (gd : Int) (A0 : Option Addr) (c0 : Nat) (A1 : Option Addr) (c1 : Nat) (w : World) (hr0 : Kd.C (Kd.int .i64) w A0 cs.length cs) (hc0 : cs.length ≤ c0) (hr1 : Kd.C k48 w A1 l0.length l0) (hc1 : l0.length ≤ c1) (r r2 : Int) (hz : laws_szChart.f wd ht cs 1048576 = some r) (hr : ¬ r < 0) (hz2 : laws_szFlawS.f l0 r = some r2) (hr2 : r2 < 0) : Calls Try.prog 5 #[.agg #[.int .i64 wd, .int .i64 ht, .slice A0 cs.length c0], .slice A1 l0.length c1, .int .i64 gd] w fun e w' => e = .returned (.bool true) ∧ Below w.heap.size w w' := by
  refine enterW (args := [.agg #[.int .i64 wd, .int .i64 ht, .slice A0 cs.length c0], .slice A1 l0.length c1, .int .i64 gd]) [(fun W => Kd.C (Kd.int .i64) W A0 cs.length cs), (fun W => Kd.C k48 W A1 l0.length l0)] (fun p hp W hb => by
    rcases List.mem_cons.1 hp with rfl | hp
    · exact Kd.C_below hr0 hb
    · rw [List.mem_singleton.1 hp]; exact Kd.C_below hr1 hb) Try.func5 rfl rfl ?_
  repeat (first
    | (apply gateO; first
      | refine Jl.yd (Y.mv rfl rfl) rfl rfl rfl ?_
      | refine Jl.yd (Y.asg rfl rfl) rfl rfl rfl ?_
      | refine Jl.yd (Y.ext rfl rfl rfl) rfl rfl rfl ?_
      | refine Jl.yd (Y.pickT rfl rfl rfl) rfl rfl rfl ?_
      | refine Jl.yd (Y.pickF rfl rfl rfl) rfl rfl rfl ?_
      | refine Jl.off rfl rfl rfl ?_
      | refine Jl.yd (Y.cmpF rfl rfl rfl rfl (by omega)) rfl rfl rfl ?_
      | refine Jl.yd (Y.cmpT rfl rfl rfl rfl (by omega)) rfl rfl rfl ?_
      | refine Jl.yd (Y.neqB rfl rfl rfl Try.underlying4) rfl rfl rfl ?_
      | refine Jl.yd (Y.cmp rfl rfl rfl rfl) rfl rfl rfl ?_
      | refine Jl.yd (Y.not rfl rfl) rfl rfl rfl ?_
      | refine Jl.yd (Y.arithN rfl rfl rfl rfl (by omega)) rfl rfl rfl ?_
      | refine Jl.yd (Y.arith64 rfl rfl rfl rfl) rfl rfl rfl ?_
      | refine Jl.yd (Y.loadA rfl rfl agg46 (by repeat (first | exact .head _ | refine .tail _ ?_)) (by rfl)) rfl rfl rfl ?_
      | refine Jl.yd (Y.loadA rfl rfl agg26 (by repeat (first | exact .head _ | refine .tail _ ?_)) (by rfl)) rfl rfl rfl ?_
      | refine Jl.alloc rfl rfl rfl rfl zero26 (fun g => ?_)
      | refine Jl.storeA rfl rfl rfl rfl rfl sz26 (by repeat (first | exact .z | apply SetAt.s)) (by rfl) (by rfl) ?_
      | refine Jl.call1 (v := .int .i64 r) rfl rfl rfl rfl en27 rfl (fun w hW => by with_reducible first | exact laws_szChart.calls wd ht _ _ cs 1048576 r w (hW.fact (p := (fun W => Kd.C (Kd.int .i64) W A0 cs.length cs)) (by repeat (first | exact memH | refine memT ?_))) hc0 hz | exact Calls.mono (laws_szChart.calls wd ht _ _ cs 1048576 r w (hW.fact (p := (fun W => Kd.C (Kd.int .i64) W A0 cs.length cs)) (by repeat (first | exact memH | refine memT ?_))) hc0 hz) (fun _ _ hh => ⟨hh.1, hh.2.below⟩)) ?_
      | refine Jl.call1 (v := .int .i64 r2) rfl rfl rfl rfl en28 rfl (fun w hW => by with_reducible first | exact laws_szFlawS.calls _ _ l0 r r2 w (hW.fact (p := (fun W => Kd.C k48 W A1 l0.length l0)) (by repeat (first | exact memH | refine memT ?_))) hc1 hz2 | exact Calls.mono (laws_szFlawS.calls _ _ l0 r r2 w (hW.fact (p := (fun W => Kd.C k48 W A1 l0.length l0)) (by repeat (first | exact memH | refine memT ?_))) hc1 hz2) (fun _ _ hh => ⟨hh.1, hh.2.below⟩)) ?_
      | refine Jl.box (zs := [.int .i64 wd, .int .i64 ht, .slice A0 cs.length c0]) rfl rfl rfl rfl rfl (by rfl) (fun g => ?_)
      | refine Jl.splitG rfl rfl (fun h => ?_) (fun h => ?_))
    | (apply gateE; first
      | refine Jl.nil (Ej.go ?_ (fun _ _ h => h))
      | (refine Jl.nil (Ej.back (fun _ _ h => h) (by repeat (first | exact .refl | apply DropTo.tail)) ?_); repeat (first | exact trivial | refine ⟨rfl, ?_⟩)))
    | (apply gateC; first
      | refine Cj.ret rfl (Ej.out1 (P := Try.prog) (fn := Try.f5) (R := fun e w' => e = .returned (.bool true) ∧ Below w.heap.size w w') (fun _ _ h => h) rfl rfl (fun w hW => ⟨rfl, hW.below⟩))
      | refine Cj.condF rfl rfl (Cj.skip rfl (Ej.go ?_ (fun _ _ h => h)))
      | (refine Cj.condF rfl rfl (Cj.skip rfl (Ej.back (fun _ _ h => h) (by repeat (first | exact .refl | apply DropTo.tail)) ?_)); repeat (first | exact trivial | refine ⟨rfl, ?_⟩))
      | refine Cj.condF rfl rfl ?_
      | refine Cj.condT rfl rfl ?_
      | refine Cj.exit rfl (Ej.go ?_ (fun _ _ h => h))
      | refine Cj.cond rfl rfl (fun h => ?_) (fun h => ?_)
      | refine Cj.skip rfl (Ej.go ?_ (fun _ _ h => h))
      | (refine Cj.skip rfl (Ej.back (fun _ _ h => h) (by repeat (first | exact .refl | apply DropTo.tail)) ?_); repeat (first | exact trivial | refine ⟨rfl, ?_⟩))
      | refine Cj.seq rfl ?_
      | refine Cj.region rfl ?_))

set_option maxHeartbeats 8000000 in
theorem walkC (wd ht : Int) (cs : List Int) (l0 : List S48) (gd : Int) (A0 : Option Addr) (c0 : Nat) (A1 : Option Addr) (c1 : Nat) (w : World) (hr0 : Kd.C (Kd.int .i64) w A0 cs.length cs) (hc0 : cs.length ≤ c0) (hr1 : Kd.C k48 w A1 l0.length l0) (hc1 : l0.length ≤ c1) (r r2 : Int) (hz : laws_szChart.f wd ht cs 1048576 = some r) (hr : ¬ r < 0) (hz2 : laws_szFlawS.f l0 r = some r2) (hr2 : ¬ r2 < 0)
    (l l' : List S35) (cs' : List Int) (q : List Int) (qb : Bool) (qd : feQ wd ht cs l gd = (q, qb)) (hlb : l.length ≤ 1048576) (hcb : cs.length ≤ 1048576) (kt kh ke kc kq km kn kp kx : Nat) (r3 r4 : Int) (htc : laws_toChart.f kt wd ht cs = some (wd, ht, cs)) (hth : laws_toFlawS.f kh l0 = some l) (he : laws_eqIntS.f ke q q = some true) (hqc : laws_eqChart.f kc wd ht cs wd ht cs = some true) (hqh : laws_eqFlawS.f kq l l = some true)
    (hmc : laws_markChart.f km wd ht cs 1 = some (r3, cs')) (hmh : laws_markFlawS.f kn l r3 = some (r4, l')) (hr4 : ¬ r4 < 0) (hmq : laws_markIntS.f kp q 1 = some (((q.length + 1 : Nat) : Int), marks q.length)) (hhe : laws_heldIntS.f kx (marks q.length) 1 = some ((q.length + 1 : Nat) : Int)) : Calls Try.prog 5 #[.agg #[.int .i64 wd, .int .i64 ht, .slice A0 cs.length c0], .slice A1 l0.length c1, .int .i64 gd] w fun e w' => e = .returned (.bool true) ∧ Below w.heap.size w w' := by
  have sM := @sM wd ht cs l gd
  have iM := @iM wd ht cs l gd
  rw [qd] at sM iM
  dsimp only at sM iM
  refine enterW (args := [.agg #[.int .i64 wd, .int .i64 ht, .slice A0 cs.length c0], .slice A1 l0.length c1, .int .i64 gd]) [(fun W => Kd.C (Kd.int .i64) W A0 cs.length cs), (fun W => Kd.C k48 W A1 l0.length l0)] (fun p hp W hb => by
    rcases List.mem_cons.1 hp with rfl | hp
    · exact Kd.C_below hr0 hb
    · rw [List.mem_singleton.1 hp]; exact Kd.C_below hr1 hb) Try.func5 rfl rfl ?_
  repeat (first
    | (apply gateO; first
      | refine Jl.yd (Y.mv rfl rfl) rfl rfl rfl ?_
      | refine Jl.yd (Y.asg rfl rfl) rfl rfl rfl ?_
      | refine Jl.yd (Y.ext rfl rfl rfl) rfl rfl rfl ?_
      | refine Jl.yd (Y.pickT rfl rfl rfl) rfl rfl rfl ?_
      | refine Jl.yd (Y.pickF rfl rfl rfl) rfl rfl rfl ?_
      | refine Jl.off rfl rfl rfl ?_
      | refine Jl.yd (Y.cmpF rfl rfl rfl rfl (by omega)) rfl rfl rfl ?_
      | refine Jl.yd (Y.cmpT rfl rfl rfl rfl (by omega)) rfl rfl rfl ?_
      | refine Jl.yd (Y.neqB rfl rfl rfl Try.underlying4) rfl rfl rfl ?_
      | refine Jl.yd (Y.cmp rfl rfl rfl rfl) rfl rfl rfl ?_
      | refine Jl.yd (Y.not rfl rfl) rfl rfl rfl ?_
      | refine Jl.yd (Y.arithN rfl rfl rfl rfl (by omega)) rfl rfl rfl ?_
      | refine Jl.yd (Y.arith64 rfl rfl rfl rfl) rfl rfl rfl ?_
      | refine Jl.yd (Y.loadA rfl rfl agg46 (by repeat (first | exact .head _ | refine .tail _ ?_)) (by rfl)) rfl rfl rfl ?_
      | refine Jl.yd (Y.loadA rfl rfl agg26 (by repeat (first | exact .head _ | refine .tail _ ?_)) (by rfl)) rfl rfl rfl ?_
      | refine Jl.alloc rfl rfl rfl rfl zero26 (fun g => ?_)
      | refine Jl.storeA rfl rfl rfl rfl rfl sz26 (by repeat (first | exact .z | apply SetAt.s)) (by rfl) (by rfl) ?_
      | refine Jl.call1 (v := .int .i64 r) rfl rfl rfl rfl en27 rfl (fun w hW => by with_reducible first | exact laws_szChart.calls wd ht _ _ cs 1048576 r w (hW.fact (p := (fun W => Kd.C (Kd.int .i64) W A0 cs.length cs)) (by repeat (first | exact memH | refine memT ?_))) hc0 hz | exact Calls.mono (laws_szChart.calls wd ht _ _ cs 1048576 r w (hW.fact (p := (fun W => Kd.C (Kd.int .i64) W A0 cs.length cs)) (by repeat (first | exact memH | refine memT ?_))) hc0 hz) (fun _ _ hh => ⟨hh.1, hh.2.below⟩)) ?_
      | refine Jl.call1 (v := .int .i64 r2) rfl rfl rfl rfl en28 rfl (fun w hW => by with_reducible first | exact laws_szFlawS.calls _ _ l0 r r2 w (hW.fact (p := (fun W => Kd.C k48 W A1 l0.length l0)) (by repeat (first | exact memH | refine memT ?_))) hc1 hz2 | exact Calls.mono (laws_szFlawS.calls _ _ l0 r r2 w (hW.fact (p := (fun W => Kd.C k48 W A1 l0.length l0)) (by repeat (first | exact memH | refine memT ?_))) hc1 hz2) (fun _ _ hh => ⟨hh.1, hh.2.below⟩)) ?_
      | refine Jl.callR 0 (fun v => .agg #[.int .i64 wd, .int .i64 ht, v]) rfl rfl rfl rfl en29 rfl (fun w hW => by with_reducible exact laws_toChart.calls kt wd ht _ _ cs wd ht cs w (hW.fact (p := (fun W => Kd.C (Kd.int .i64) W A0 cs.length cs)) (by repeat (first | exact memH | refine memT ?_))) hc0 htc) (fun A c hl => ?_)
      | refine Jl.callR 0 (fun v => v) rfl rfl rfl rfl en30 rfl (fun w hW => by with_reducible exact laws_toFlawS.calls kh _ _ l0 l w (hW.fact (p := (fun W => Kd.C k48 W A1 l0.length l0)) (by repeat (first | exact memH | refine memT ?_))) hc1 hth) (fun A c hl => ?_)
      | refine Jl.callR 0 (fun v => .tuple #[v, .bool qb]) rfl rfl rfl rfl en15 rfl (fun w hW => by with_reducible exact sM _ _ _ _ w (hW.rowC (by repeat (first | exact memH | refine memT ?_))) (hW.rowCap (by repeat (first | exact memH | refine memT ?_))).2 (hW.rowC (by repeat (first | exact memH | refine memT ?_))) (hW.rowCap (by repeat (first | exact memH | refine memT ?_))).2 hlb hcb) (fun A c hl => ?_)
      | refine Jl.callR 0 (fun v => .tuple #[v, .bool qb]) rfl rfl rfl rfl en14 rfl (fun w hW => by with_reducible exact iM _ _ _ _ w (hW.rowC (by repeat (first | exact memH | refine memT ?_))) (hW.rowCap (by repeat (first | exact memH | refine memT ?_))).2 (hW.rowC (by repeat (first | exact memH | refine memT ?_))) (hW.rowCap (by repeat (first | exact memH | refine memT ?_))).2 hlb) (fun A c hl => ?_)
      | refine Jl.call1 (v := .bool true) rfl rfl rfl rfl en37 rfl (fun w hW => by with_reducible first | exact laws_eqIntS.calls ke _ _ q _ _ q true w (hW.rowC (by repeat (first | exact memH | refine memT ?_))) (hW.rowCap (by repeat (first | exact memH | refine memT ?_))).2 (hW.rowC (by repeat (first | exact memH | refine memT ?_))) (hW.rowCap (by repeat (first | exact memH | refine memT ?_))).2 he | exact Calls.mono (laws_eqIntS.calls ke _ _ q _ _ q true w (hW.rowC (by repeat (first | exact memH | refine memT ?_))) (hW.rowCap (by repeat (first | exact memH | refine memT ?_))).2 (hW.rowC (by repeat (first | exact memH | refine memT ?_))) (hW.rowCap (by repeat (first | exact memH | refine memT ?_))).2 he) (fun _ _ hh => ⟨hh.1, hh.2.below⟩)) ?_
      | refine Jl.call1 (v := .bool true) rfl rfl rfl rfl en33 rfl (fun w hW => by with_reducible first | exact laws_eqChart.calls kc wd ht _ _ cs wd ht _ _ cs true w (hW.rowC (by repeat (first | exact memH | refine memT ?_))) (hW.rowCap (by repeat (first | exact memH | refine memT ?_))).2 (hW.rowC (by repeat (first | exact memH | refine memT ?_))) (hW.rowCap (by repeat (first | exact memH | refine memT ?_))).2 hqc | exact Calls.mono (laws_eqChart.calls kc wd ht _ _ cs wd ht _ _ cs true w (hW.rowC (by repeat (first | exact memH | refine memT ?_))) (hW.rowCap (by repeat (first | exact memH | refine memT ?_))).2 (hW.rowC (by repeat (first | exact memH | refine memT ?_))) (hW.rowCap (by repeat (first | exact memH | refine memT ?_))).2 hqc) (fun _ _ hh => ⟨hh.1, hh.2.below⟩)) ?_
      | refine Jl.call1 (v := .bool true) rfl rfl rfl rfl en32 rfl (fun w hW => by with_reducible first | exact laws_eqFlawS.calls kq _ _ l _ _ l true w (hW.rowC (by repeat (first | exact memH | refine memT ?_))) (hW.rowCap (by repeat (first | exact memH | refine memT ?_))).2 (hW.rowC (by repeat (first | exact memH | refine memT ?_))) (hW.rowCap (by repeat (first | exact memH | refine memT ?_))).2 hqh | exact Calls.mono (laws_eqFlawS.calls kq _ _ l _ _ l true w (hW.rowC (by repeat (first | exact memH | refine memT ?_))) (hW.rowCap (by repeat (first | exact memH | refine memT ?_))).2 (hW.rowC (by repeat (first | exact memH | refine memT ?_))) (hW.rowCap (by repeat (first | exact memH | refine memT ?_))).2 hqh) (fun _ _ hh => ⟨hh.1, hh.2.below⟩)) ?_
      | refine Jl.callMc (r := .int .i64 r3) (fun v => .row (Kd.int .i64) 3 0 v cs) (fun v => .row (Kd.int .i64) 3 0 v cs') rfl rfl rfl rfl en34 rfl (by repeat (first | exact .z | apply SetAt.s)) (fun w A hW hA => of_kept hA (fun P0 w0 hB hR => laws_markChart.calls km wd ht P0 _ cs _ _ _ w0 w hB hR hmc)) ?_
      | refine Jl.callMv (v := .int .i64 r4) (fun v => .row k35 35 0 v l) (fun v => .row k35 35 0 v l') rfl rfl rfl rfl en35 rfl (by repeat (first | exact .z | apply SetAt.s)) (fun w A hW hA => of_kept hA (fun P0 w0 hB hR => laws_markFlawS.calls kn P0 _ l _ _ _ w0 w hB hR hmh)) ?_
      | refine Jl.callMv (v := .int .i64 ((q.length + 1 : Nat) : Int)) (fun v => .row (Kd.int .i64) 3 0 v q) (fun v => .row (Kd.int .i64) 3 0 v (marks q.length)) rfl rfl rfl rfl en38 rfl (by repeat (first | exact .z | apply SetAt.s)) (fun w A hW hA => of_kept hA (fun P0 w0 hB hR => laws_markIntS.calls kp P0 _ q _ _ _ w0 w hB hR hmq)) ?_
      | refine Jl.call1 (v := .int .i64 ((q.length + 1 : Nat) : Int)) rfl rfl rfl rfl en39 rfl (fun w hW => by with_reducible first | exact held_n (hW.rowCap (by repeat (first | exact memH | refine memT ?_))).1 (hW.rowC (by repeat (first | exact memH | refine memT ?_))) (hW.rowCap (by repeat (first | exact memH | refine memT ?_))).2 hhe | exact Calls.mono (held_n (hW.rowCap (by repeat (first | exact memH | refine memT ?_))).1 (hW.rowC (by repeat (first | exact memH | refine memT ?_))) (hW.rowCap (by repeat (first | exact memH | refine memT ?_))).2 hhe) (fun _ _ hh => ⟨hh.1, hh.2.below⟩)) ?_
      | refine Jl.box (zs := [.int .i64 wd, .int .i64 ht, .slice A0 cs.length c0]) rfl rfl rfl rfl rfl (by rfl) (fun g => ?_)
      | refine Jl.splitG rfl rfl (fun h => ?_) (fun h => ?_))
    | (apply gateE; first
      | refine Jl.nil (Ej.go ?_ (fun _ _ h => h))
      | (refine Jl.nil (Ej.back (fun _ _ h => h) (by repeat (first | exact .refl | apply DropTo.tail)) ?_); repeat (first | exact trivial | refine ⟨rfl, ?_⟩)))
    | (apply gateC; first
      | refine Cj.regionD rfl (mkD [0, 1, 4] []) [] [0, 1, 2, 3, 4] mixed (by decide +kernel) ?_
      | refine Cj.ret rfl (Ej.out1 (P := Try.prog) (fn := Try.f5) (R := fun e w' => e = .returned (.bool true) ∧ Below w.heap.size w w') (fun _ _ h => h) rfl rfl (fun w hW => ⟨rfl, hW.below⟩))
      | refine Cj.condF rfl rfl (Cj.skip rfl (Ej.go ?_ (fun _ _ h => h)))
      | (refine Cj.condF rfl rfl (Cj.skip rfl (Ej.back (fun _ _ h => h) (by repeat (first | exact .refl | apply DropTo.tail)) ?_)); repeat (first | exact trivial | refine ⟨rfl, ?_⟩))
      | refine Cj.condF rfl rfl ?_
      | refine Cj.condT rfl rfl ?_
      | refine Cj.exit rfl (Ej.go ?_ (fun _ _ h => h))
      | refine Cj.cond rfl rfl (fun h => ?_) (fun h => ?_)
      | refine Cj.skip rfl (Ej.go ?_ (fun _ _ h => h))
      | (refine Cj.skip rfl (Ej.back (fun _ _ h => h) (by repeat (first | exact .refl | apply DropTo.tail)) ?_); repeat (first | exact trivial | refine ⟨rfl, ?_⟩))
      | refine Cj.seq rfl ?_
      | refine Cj.region rfl ?_))

/-- The program's FewestRepairs returns what the reference's returns. -/
theorem full (wd ht : Int) (cs : List Int) (l0 : List S48) (gd : Int) (A0 : Option Addr) (c0 : Nat) (A1 : Option Addr) (c1 : Nat) (w : World) (hr0 : Kd.C (Kd.int .i64) w A0 cs.length cs) (hc0 : cs.length ≤ c0) (hr1 : Kd.C k48 w A1 l0.length l0) (hc1 : l0.length ≤ c1) (hm0 : cs.length ≤ maxLen) (hm1 : l0.length ≤ maxLen) : Calls Try.prog 5 #[.agg #[.int .i64 wd, .int .i64 ht, .slice A0 cs.length c0], .slice A1 l0.length c1, .int .i64 gd] w fun e w' => e = .returned (.bool true) ∧ Below w.heap.size w w' := by
  obtain ⟨r, hz, hr⟩ := szChart wd ht cs 1048576 hm0 (by omega)
  by_cases h1 : r < 0
  · exact walkA wd ht cs l0 gd A0 c0 A1 c1 w hr0 hc0 hr1 hc1 r hz h1
  obtain ⟨h2, h3, hcs⟩ := hr.resolve_left h1
  obtain ⟨r2, hz2, hr2⟩ := szFlaws l0 r hm1 ⟨h2, h3⟩
  by_cases h4 : r2 < 0
  · exact walkB wd ht cs l0 gd A0 c0 A1 c1 w hr0 hc0 hr1 hc1 r r2 hz h1 hz2 h4
  obtain ⟨_, _, hls⟩ := hr2.resolve_left h4
  obtain ⟨kt, e1⟩ := (toChart wd ht cs hcs).rounds
  obtain ⟨kh, e2⟩ := (toFlaws l0 hls).rounds
  have hl : (l0.map cvFlaw).length ≤ 1048576 := by simpa using hls
  generalize l0.map cvFlaw = l at e2 hl
  have hql := feQ_len wd ht cs l gd
  obtain ⟨⟨q, qb⟩, qd⟩ : ∃ q, feQ wd ht cs l gd = q := ⟨_, rfl⟩
  rw [qd] at hql
  have hql : q.length ≤ 1048576 := Nat.le_trans hql hl
  obtain ⟨ke, e5⟩ := (eqInts q hql).rounds
  obtain ⟨kc, e6⟩ := (eqChart wd ht cs hcs).rounds
  obtain ⟨kq, e7⟩ := (eqFlaws l hl).rounds
  obtain ⟨p3, f1, hM⟩ := markChart wd ht cs hcs 1 (by omega)
  obtain ⟨km, e8⟩ := hM.rounds
  obtain ⟨l', hN⟩ := markFlaws l hl (1 + cs.length) (by omega)
  obtain ⟨kn, e9⟩ := hN.rounds
  obtain ⟨kp, e10⟩ := (markInts q hql).rounds
  obtain ⟨kx, e11⟩ := (heldInts q.length hql).rounds
  rw [← f1] at e9
  exact walkC wd ht cs l0 gd A0 c0 A1 c1 w hr0 hc0 hr1 hc1 r r2 hz h1 hz2 h4 l l' p3.2 q qb qd hl hcs kt kh ke kc kq km kn kp kx p3.1 _ e1 e2 e5 e6 e7 e8 e9 (by omega) e10 e11
end FRL
end Go.Proofs.Ytkglpfdoefdhdaa.WK

namespace Go.Proofs.Ytkglpfdoefdhdaa.Wk
open Go Go.RowKit Go.Proofs.Ytkglpfdoefdhdaa.Q Go.Proofs.Ytkglpfdoefdhdaa.WK Go.Proofs.YtkglpfdoefdhdaaW.PrintWords
theorem FnExactFewestRepairs : laws_FnExactFewestRepairs.Goal := fun wd ht cs l0 m0 A0 c0 A1 c1 w hr0 hc0 hr1 hc1 q0 q1 _ => FRL.full wd ht cs l0 m0 A0 c0 A1 c1 w hr0 hc0 hr1 hc1 q0.2.2.1 q1.1
end Go.Proofs.Ytkglpfdoefdhdaa.Wk

namespace Go.Proofs.Ytkglpfdoefdhdaa.fnExactFewestRepairs
open Go.ChangeShapes Go.WideShapes Go.ChangeAt Go.RowKit Go.Proofs.Ytkglpfdoefdhdaa.Q Go.Proofs.YtkglpfdoefdhdaaW.Open Go.Proofs.YtkglpfdoefdhdaaW.PrintWords
set_option linter.unusedVariables false
theorem own : ownKnob Try.prog.godebug = none := by kernel_rfl
theorem laidOut : laidOutB Try.prog = true := by kernel_rfl
set_option maxRecDepth 100000 in
theorem lifted (os : Os) (started : os.Started) (H : Type) (enc : TypeId × Value → H) :
    ReturnsInHanded {} Try.checked os 5 .any (Rows.fnExactFewestRepairsSpec.pre6 enc Try.prog Try.f5 Rows.fnExactFewestRepairsRow.domain false) (Rows.fnExactFewestRepairsSpec.post enc Try.prog Try.f5 false true false false) := by
  refine returnsInHanded_of_change_sized (C := Try.checked) own started (by kernel_rfl) Try.func5
    (ChangeSpec.witness6 (enc := enc) (C := Try.checked) false ⟨#[], #[.agg #[.int .i64 0, .int .i64 0, .slice none 0 0], .slice none 0 0, .int .i64 0], []⟩ 8 (by kernel_rfl) (by kernel_rfl) (by kernel_rfl) (by kernel_rfl)) ?_
  intro W base args ds gs before hval0 hW hcnd hsz0 _
  have hval : ∀ (j : Nat) t v, Try.f5.params[j]? = some t → args[j]? = some v → Value.okWide Try.prog W .any base t v := hval0
  have hW' := hW
  obtain ⟨p, q, hA0, hV, rfl, hfz, hnd⟩ := hW
  have hA : DataW.TrodAll enc Try.prog W 0 (fun _ => true) true Try.f5.params.toList args.toList ds p := hA0
  rw [Try.params5] at hA hval
  obtain ⟨v0, vs0, d0, ds0, p0, q0, hargs, rfl, rfl, h0, r0⟩ := trodAll_cons hA
  obtain ⟨v1, vs1, d1, ds1, p1, q1, rfl, rfl, rfl, h1, r1⟩ := trodAll_cons r0
  obtain ⟨v2, vs2, d2, ds2, p2, q2, rfl, rfl, rfl, h2, r2⟩ := trodAll_cons r1
  obtain ⟨rfl, rfl, rfl⟩ := trodAll_nil r2
  obtain rfl : args = #[v0, v1, v2] := by cases args; simp_all
  obtain ⟨rfl, rfl⟩ := trodVars_none hV
  have k0 := h0
  have lt0 : ∀ x ∈ p0, x.block < W.heap.size := by obtain ⟨m, hm⟩ := k0; exact DataW.trod_lt m _ _ _ hm
  obtain ⟨cs0, rfl, _⟩ := okWide_struct Try.underlying46 (hval 0 46 v0 rfl rfl)
  obtain ⟨fu0, hf0⟩ := h0
  obtain ⟨x0, hk0, q0⟩ := (opn46).out hf0
  have ho0 := k46_open hk0
  obtain ⟨A0_2, c0_2, ho0, hc0_2, hr0_2⟩ := ho0
  obtain rfl : cs0 = #[.int .i64 x0.f0, .int .i64 x0.f1, .slice A0_2 x0.f2.length c0_2] := by cases cs0; simpa [Value.cells] using ho0
  have k1 := h1
  have lt1 : ∀ x ∈ p1, x.block < W.heap.size := by obtain ⟨m, hm⟩ := k1; exact DataW.trod_lt m _ _ _ hm
  obtain ⟨a1, len1, cap1, rfl⟩ := okWide_slice Try.underlying47 (hval 1 47 v1 rfl rfl)
  obtain ⟨fu1, hf1⟩ := h1
  obtain ⟨x1, ⟨A1, c1, hk1, hc1, hr1⟩, q1⟩ := ((Opn.slice Try.underlying47 (n0 := 4) (by kernel_rfl) rfl opn48)).out hf1
  simp [Value.cells] at hk1
  obtain ⟨rfl, rfl, rfl⟩ := hk1
  have k2 := h2
  have lt2 : ∀ x ∈ p2, x.block < W.heap.size := by obtain ⟨m, hm⟩ := k2; exact DataW.trod_lt m _ _ _ hm
  obtain ⟨a2, rfl, _, _, q2⟩ := open_int Try.underlying3 (hval 2 3 v2 rfl rfl) h2
  refine (Go.Proofs.Ytkglpfdoefdhdaa.Wk.FnExactFewestRepairs x0.f0 x0.f1 x0.f2 x1 a2 A0_2 c0_2 _ _ W hr0_2 hc0_2 hr1 hc1 q0 q1 q2).mono fun e W' ⟨he, bel⟩ => ?_
  subst he
  exact ⟨_, rfl, _, _, _, [], _, [], hW', trodAll_mk1 (shut_bool Try.underlying4 _), (trodAll_cons_mk (Below.trod laidOut (by kernel_rfl) (of_decide_eq_true (by kernel_rfl)) k0 bel lt0) (trodAll_cons_mk (Below.trod laidOut (by kernel_rfl) (of_decide_eq_true (by kernel_rfl)) k1 bel lt1) (trodAll_cons_mk (Below.trod laidOut (by kernel_rfl) (of_decide_eq_true (by kernel_rfl)) k2 bel lt2) trodAll_mk0))), rfl, bel.frame _, fun h => by cases h⟩
theorem over : Rows.fnExactFewestRepairsRow.holds Try.pinned (OpenSpec.ofChange Rows.fnExactFewestRepairsSpec) :=
  OpenClaim.holds_of_wide 5 Try.f5 rfl rfl rfl rfl rfl rfl rfl ⟨rfl, rfl, rfl, rfl, rfl⟩ rfl rfl rfl rfl rfl (by kernel_rfl) Try.func5 (by kernel_rfl)
    (of_decide_eq_true (by kernel_rfl)) (by unfold Func.isWrapper; first | (rw [if_pos (by decide +kernel)]; kernel_rfl) | (rw [if_neg (by decide +kernel)]; exact ⟨rfl, rfl⟩))
    (fun os started H enc _ => lifted os started H enc)
theorem proved : Rows.FnExactFewestRepairsSaid := over
end Go.Proofs.Ytkglpfdoefdhdaa.fnExactFewestRepairs
namespace Go.Proofs.Ytkglpfdoefdhdaa
/-- The row, under a short name, for the claim. -/
theorem fnExactFewestRepairs_holds : Rows.FnExactFewestRepairsSaid := fnExactFewestRepairs.proved
end Go.Proofs.Ytkglpfdoefdhdaa

#print axioms Go.Proofs.Ytkglpfdoefdhdaa.fnExactFewestRepairs_holds
