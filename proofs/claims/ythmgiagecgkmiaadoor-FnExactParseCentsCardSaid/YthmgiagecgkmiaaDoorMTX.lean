import Derived.Test.YthmgiagecgkmiaaDoorSLD
import Derived.Test.YthmgiagecgkmiaaDoorSLS
import Derived.Test.YthmgiagecgkmiaaDoorMTP
import Derived.Test.YthmgiagecgkmiaaDoorMSh
import Derived.KernelRfl
import Derived.Lib.AppendIntMem
import Derived.Test.YthmgiagecgkmiaaDoorQx30
import Derived.Test.YthmgiagecgkmiaaDoorQx8888801
namespace Go.Proofs.YthmgiagecgkmiaaDoor.WK
open Go Go.RowKit Go.Proofs.YthmgiagecgkmiaaDoor.Q Go.Proofs.YthmgiagecgkmiaaDoor.M Go.Proofs.YthmgiagecgkmiaaDoorW.PrintWords Go.Proofs.YthmgiagecgkmiaaDoorW.Pl Go.Proofs.YthmgiagecgkmiaaDoorW.SL
set_option linter.unusedSimpArgs false
set_option linter.unusedVariables false
set_option maxRecDepth 100000
namespace Txt
theorem agg28 : AggT Tryd.prog 28 6 := ⟨by kernel_rfl⟩
theorem agg26 : AggT Tryd.prog 26 6 := ⟨by kernel_rfl⟩
theorem sc3 : ScT Tryd.prog 3 := ⟨by kernel_rfl⟩
theorem fld28_0 : FldT Tryd.prog 28 0 0 := ⟨by kernel_rfl⟩
theorem fld28_1 : FldT Tryd.prog 28 1 1 := ⟨by kernel_rfl⟩
theorem fld28_2 : FldT Tryd.prog 28 2 2 := ⟨by kernel_rfl⟩
theorem en42 : Ent Tryd.prog 42 := ⟨enters_of Tryd.func42 (by kernel_rfl) rfl⟩
theorem en26 : Ent Tryd.prog 26 := ⟨enters_of Tryd.func26 (by kernel_rfl) rfl⟩
theorem en41 : Ent Tryd.prog 41 := ⟨enters_of Tryd.func41 (by kernel_rfl) rfl⟩
theorem en22 : Ent Tryd.prog 22 := ⟨enters_of Tryd.func22 (by kernel_rfl) rfl⟩
theorem en21 : Ent Tryd.prog 21 := ⟨enters_of Tryd.func21 (by kernel_rfl) rfl⟩
theorem en25 : Ent Tryd.prog 25 := ⟨enters_of Tryd.func25 (by kernel_rfl) rfl⟩
theorem en27 : Ent Tryd.prog 27 := ⟨enters_of Tryd.func27 (by kernel_rfl) rfl⟩
theorem en7 : Ent Tryd.prog 7 := ⟨enters_of Tryd.func7 (by kernel_rfl) rfl⟩
theorem en8 : Ent Tryd.prog 8 := ⟨enters_of Tryd.func8 (by kernel_rfl) rfl⟩
theorem en9 : Ent Tryd.prog 9 := ⟨enters_of Tryd.func9 (by kernel_rfl) rfl⟩
theorem en10 : Ent Tryd.prog 10 := ⟨enters_of Tryd.func10 (by kernel_rfl) rfl⟩
theorem en11 : Ent Tryd.prog 11 := ⟨enters_of Tryd.func11 (by kernel_rfl) rfl⟩
theorem en30 : Ent Tryd.prog 30 := ⟨enters_of Tryd.func30 (by kernel_rfl) rfl⟩
theorem en20 : Ent Tryd.prog 20 := ⟨enters_of Tryd.func20 (by kernel_rfl) rfl⟩
theorem en19 : Ent Tryd.prog 19 := ⟨enters_of Tryd.func19 (by kernel_rfl) rfl⟩
theorem en23 : Ent Tryd.prog 23 := ⟨enters_of Tryd.func23 (by kernel_rfl) rfl⟩
theorem en24 : Ent Tryd.prog 24 := ⟨enters_of Tryd.func24 (by kernel_rfl) rfl⟩
theorem en29 : Ent Tryd.prog 29 := ⟨enters_of Tryd.func29 (by kernel_rfl) rfl⟩
abbrev tabName : String := "internal/strconv.uint64pow10"
theorem bel_ {w w' : World} (h : Drawn0 w w') : Below w.heap.size w w' := h.below
theorem tab_below {w W : World} (h : Lib.TabIs Tryd.prog w tabName .u64 Lib.pow10Tab) (hb : Below w.heap.size w W) : Lib.TabIs Tryd.prog W tabName .u64 Lib.pow10Tab := Lib.tabBelow_of_tabIs h W hb
theorem below_grow (w : World) (k : Nat) (os : Array Obj) : Below w.heap.size w (Sort.grow (w.drewN k) os) := by
  refine ⟨rfl, rfl, rfl, by simp, fun k hk => ?_⟩
  rw [Sort.heap_grow_old _ _ (by simpa using hk)]
  rfl
theorem itoa_ (n : Int) (h0 : -9223372036854775808 ≤ n) (h1 : n ≤ 9223372036854775807) (w : World) (h : Lib.TabIs Tryd.prog w tabName .u64 Lib.pow10Tab) : Calls Tryd.prog 42 #[.int .i64 n] w fun e w' => e = .returned (.string (dec n)) ∧ Below w.heap.size w w' := by
  refine (Tryd.strconv_Itoa n h0 h1 w h).mono ?_
  rintro e w' ⟨rfl, k, os, rfl⟩
  exact ⟨rfl, below_grow w k os⟩
set_option maxHeartbeats 2000000 in
theorem dec_ (n : Int) (h0 : -9223372036854775808 ≤ n) (h1 : n ≤ 9223372036854775807) (w : World) (htab : Lib.TabIs Tryd.prog w tabName .u64 Lib.pow10Tab) : Calls Tryd.prog 26 #[.int .i64 n] w fun e w' => e = .returned (.string (dec n)) ∧ Below w.heap.size w w' := by
  let Rr : Ending → World → Prop := fun e w' => e = .returned (.string (dec n)) ∧ Below w.heap.size w w'
  refine enterW (args := [.int .i64 n]) [fun W => Lib.TabIs Tryd.prog W tabName .u64 Lib.pow10Tab] (fun p hp W hb => by rw [List.mem_singleton.1 hp]; exact tab_below htab hb) Tryd.func26 rfl rfl ?_
  show Cj Tryd.prog _ _ _ (bodyPost Tryd.prog Tryd.f26 Rr) _ _ _
  repeat (first
    | (apply gateO; first
      | refine Jl.yd (Y.mv rfl rfl) rfl rfl rfl ?_
      | refine Jl.yd (Y.asg rfl rfl) rfl rfl rfl ?_
      | refine Jl.yd (Y.ext rfl rfl rfl) rfl rfl rfl ?_
      | refine Jl.yd (Y.pickT rfl rfl rfl) rfl rfl rfl ?_
      | refine Jl.yd (Y.pickF rfl rfl rfl) rfl rfl rfl ?_
      | refine Jl.off rfl rfl rfl ?_
      | refine Jl.yd (Y.cmpF rfl rfl rfl rfl (by omega)) rfl rfl rfl ?_
      | refine Jl.yd (Y.cmpT rfl rfl rfl rfl (by omega)) rfl rfl rfl ?_
      | refine Jl.yd (Y.neqB rfl rfl rfl Tryd.underlying4) rfl rfl rfl ?_
      | refine Jl.yd (Y.cmp rfl rfl rfl rfl) rfl rfl rfl ?_
      | refine Jl.yd (Y.not rfl rfl) rfl rfl rfl ?_
      | refine Jl.yd (Y.arithN rfl rfl rfl rfl (by omega)) rfl rfl rfl ?_
      | refine Jl.yd (Y.arith64 rfl rfl rfl rfl) rfl rfl rfl ?_
      | refine Jl.call1 (v := .string (dec n)) rfl rfl rfl rfl en42 rfl (fun w hW => itoa_ n h0 h1 w (hW.at 0 rfl)) ?_
      | refine Jl.splitG rfl rfl (fun h => ?_) (fun h => ?_))
    | (apply gateE; first
      | refine Jl.nil (Ej.go ?_ (fun _ _ h => h))
      | (refine Jl.nil (Ej.back (fun _ _ h => h) (by repeat (first | exact .refl | apply DropTo.tail)) ?_); repeat (first | exact trivial | refine ⟨rfl, ?_⟩)))
    | (apply gateC; first
      | refine Cj.ret rfl (Ej.out1 (P := Tryd.prog) (fn := Tryd.f26) (R := Rr) (fun _ _ h => h) rfl rfl (fun w' hW => ?_))
      | refine Cj.condF rfl rfl (Cj.skip rfl (Ej.go ?_ (fun _ _ h => h)))
      | (refine Cj.condF rfl rfl (Cj.skip rfl (Ej.back (fun _ _ h => h) (by repeat (first | exact .refl | apply DropTo.tail)) ?_)); repeat (first | exact trivial | refine ⟨rfl, ?_⟩))
      | refine Cj.condF rfl rfl ?_
      | refine Cj.condT rfl rfl ?_
      | refine Cj.exit rfl (Ej.go ?_ (fun _ _ h => h))
      | refine Cj.cond rfl rfl (fun h => ?_) (fun h => ?_)
      | refine Cj.skip rfl (Ej.go ?_ (fun _ _ h => h))
      | (refine Cj.skip rfl (Ej.back (fun _ _ h => h) (by repeat (first | exact .refl | apply DropTo.tail)) ?_); repeat (first | exact trivial | refine ⟨rfl, ?_⟩))
      | refine Cj.seq rfl ?_
      | refine Cj.region rfl ?_))
  exact ⟨rfl, hW.below⟩
set_option maxHeartbeats 2000000 in
theorem centsN (u : Nat) (hu : u ≤ 1000000000000) (w : World) (htab : Lib.TabIs Tryd.prog w tabName .u64 Lib.pow10Tab) : Calls Tryd.prog 22 #[.int .i64 (u : Int)] w fun e w' => e = .returned (.string (cP u)) ∧ Below w.heap.size w w' := by
  let Rr : Ending → World → Prop := fun e w' => e = .returned (.string (cP u)) ∧ Below w.heap.size w w'
  have habs : impl_abs.f (u : Int) = some (u : Int) := by
    unfold impl_abs.f mx
    rw [w64 (by omega), if_neg (by omega)]
  have s1 := dec_sizeN (u / 100) (by omega)
  have s2 := dec_sizeN (u / 10 % 10) (by omega)
  have s3 := dec_sizeN (u % 10) (by omega)
  refine enterW (args := [.int .i64 (u : Int)]) [fun W => Lib.TabIs Tryd.prog W tabName .u64 Lib.pow10Tab] (fun p hp W hb => by rw [List.mem_singleton.1 hp]; exact tab_below htab hb) Tryd.func22 rfl rfl ?_
  show Cj Tryd.prog _ _ _ (bodyPost Tryd.prog Tryd.f22 Rr) _ _ _
  repeat (first
    | (apply gateO; first
      | refine Jl.yd (Y.mv rfl rfl) rfl rfl rfl ?_
      | refine Jl.yd (Y.asg rfl rfl) rfl rfl rfl ?_
      | refine Jl.yd (Y.ext rfl rfl rfl) rfl rfl rfl ?_
      | refine Jl.yd (Y.pickT rfl rfl rfl) rfl rfl rfl ?_
      | refine Jl.yd (Y.pickF rfl rfl rfl) rfl rfl rfl ?_
      | refine Jl.off rfl rfl rfl ?_
      | refine Jl.yd (Y.cmpF rfl rfl rfl rfl (by omega)) rfl rfl rfl ?_
      | refine Jl.yd (Y.cmpT rfl rfl rfl rfl (by omega)) rfl rfl rfl ?_
      | refine Jl.yd (Y.neqB rfl rfl rfl Tryd.underlying4) rfl rfl rfl ?_
      | refine Jl.yd (Y.cmp rfl rfl rfl rfl) rfl rfl rfl ?_
      | refine Jl.yd (Y.not rfl rfl) rfl rfl rfl ?_
      | refine Jl.yd (Y.arithN rfl rfl rfl rfl (by omega)) rfl rfl rfl ?_
      | refine Jl.yd (Y.arith64 rfl rfl rfl rfl) rfl rfl rfl ?_
      | refine Jl.call1 (v := .int .i64 (u : Int)) rfl rfl rfl rfl en41 rfl (fun w hW => impl_abs.calls _ _ w habs) ?_
      | refine Jl.yd (Y.cat rfl rfl rfl (by (try simp only [ByteArray.size_append', ByteArray.size_mk', List.size_toArray, List.length_cons, List.length_nil]); omega)) rfl rfl rfl ?_
      | refine Jl.yd (Y.quoN ((u / 100 : Nat)) rfl rfl rfl (by omega) (by omega) (by omega)) rfl rfl rfl ?_
      | refine Jl.yd (Y.remN ((u % 100 : Nat)) rfl rfl rfl (by omega) (by omega) (by omega)) rfl rfl rfl ?_
      | refine Jl.yd (Y.quoN ((u / 10 % 10 : Nat)) rfl rfl rfl (by omega) (by omega) (by omega)) rfl rfl rfl ?_
      | refine Jl.yd (Y.remN ((u % 10 : Nat)) rfl rfl rfl (by omega) (by omega) (by omega)) rfl rfl rfl ?_
      | refine Jl.call1 (v := .string (dec _)) rfl rfl rfl rfl en26 rfl (fun w hW => by with_reducible exact dec_ _ (by omega) (by omega) w (hW.at 0 rfl)) ?_
      | refine Jl.splitG rfl rfl (fun h => ?_) (fun h => ?_))
    | (apply gateE; first
      | refine Jl.nil (Ej.go ?_ (fun _ _ h => h))
      | (refine Jl.nil (Ej.back (fun _ _ h => h) (by repeat (first | exact .refl | apply DropTo.tail)) ?_); repeat (first | exact trivial | refine ⟨rfl, ?_⟩)))
    | (apply gateC; first
      | refine Cj.ret rfl (Ej.out1 (P := Tryd.prog) (fn := Tryd.f22) (R := Rr) (fun _ _ h => h) rfl rfl (fun w' hW => ?_))
      | refine Cj.condF rfl rfl (Cj.skip rfl (Ej.go ?_ (fun _ _ h => h)))
      | (refine Cj.condF rfl rfl (Cj.skip rfl (Ej.back (fun _ _ h => h) (by repeat (first | exact .refl | apply DropTo.tail)) ?_)); repeat (first | exact trivial | refine ⟨rfl, ?_⟩))
      | refine Cj.condF rfl rfl ?_
      | refine Cj.condT rfl rfl ?_
      | refine Cj.exit rfl (Ej.go ?_ (fun _ _ h => h))
      | refine Cj.cond rfl rfl (fun h => ?_) (fun h => ?_)
      | refine Cj.skip rfl (Ej.go ?_ (fun _ _ h => h))
      | (refine Cj.skip rfl (Ej.back (fun _ _ h => h) (by repeat (first | exact .refl | apply DropTo.tail)) ?_); repeat (first | exact trivial | refine ⟨rfl, ?_⟩))
      | refine Cj.seq rfl ?_
      | refine Cj.region rfl ?_))
  exact ⟨by unfold cP; rw [show (⟨#[]⟩ : ByteArray) = ByteArray.empty from rfl, ByteArray.empty_append], hW.below⟩
set_option maxHeartbeats 2000000 in
theorem centsM (u : Nat) (hu : u ≤ 1000000000000) (hp : 1 ≤ u) (w : World) (htab : Lib.TabIs Tryd.prog w tabName .u64 Lib.pow10Tab) : Calls Tryd.prog 22 #[.int .i64 (-(u : Int))] w fun e w' => e = .returned (.string (⟨#[45]⟩ ++ cP u)) ∧ Below w.heap.size w w' := by
  let Rr : Ending → World → Prop := fun e w' => e = .returned (.string (⟨#[45]⟩ ++ cP u)) ∧ Below w.heap.size w w'
  have habs : impl_abs.f (-(u : Int)) = some (u : Int) := by
    unfold impl_abs.f mx
    rw [Int.neg_neg, w64 (by omega), if_pos (by omega)]
  have s1 := dec_sizeN (u / 100) (by omega)
  have s2 := dec_sizeN (u / 10 % 10) (by omega)
  have s3 := dec_sizeN (u % 10) (by omega)
  refine enterW (args := [.int .i64 (-(u : Int))]) [fun W => Lib.TabIs Tryd.prog W tabName .u64 Lib.pow10Tab] (fun p hp W hb => by rw [List.mem_singleton.1 hp]; exact tab_below htab hb) Tryd.func22 rfl rfl ?_
  show Cj Tryd.prog _ _ _ (bodyPost Tryd.prog Tryd.f22 Rr) _ _ _
  repeat (first
    | (apply gateO; first
      | refine Jl.yd (Y.mv rfl rfl) rfl rfl rfl ?_
      | refine Jl.yd (Y.asg rfl rfl) rfl rfl rfl ?_
      | refine Jl.yd (Y.ext rfl rfl rfl) rfl rfl rfl ?_
      | refine Jl.yd (Y.pickT rfl rfl rfl) rfl rfl rfl ?_
      | refine Jl.yd (Y.pickF rfl rfl rfl) rfl rfl rfl ?_
      | refine Jl.off rfl rfl rfl ?_
      | refine Jl.yd (Y.cmpF rfl rfl rfl rfl (by omega)) rfl rfl rfl ?_
      | refine Jl.yd (Y.cmpT rfl rfl rfl rfl (by omega)) rfl rfl rfl ?_
      | refine Jl.yd (Y.neqB rfl rfl rfl Tryd.underlying4) rfl rfl rfl ?_
      | refine Jl.yd (Y.cmp rfl rfl rfl rfl) rfl rfl rfl ?_
      | refine Jl.yd (Y.not rfl rfl) rfl rfl rfl ?_
      | refine Jl.yd (Y.arithN rfl rfl rfl rfl (by omega)) rfl rfl rfl ?_
      | refine Jl.yd (Y.arith64 rfl rfl rfl rfl) rfl rfl rfl ?_
      | refine Jl.call1 (v := .int .i64 (u : Int)) rfl rfl rfl rfl en41 rfl (fun w hW => impl_abs.calls _ _ w habs) ?_
      | refine Jl.yd (Y.cat rfl rfl rfl (by (try simp only [ByteArray.size_append', ByteArray.size_mk', List.size_toArray, List.length_cons, List.length_nil]); omega)) rfl rfl rfl ?_
      | refine Jl.yd (Y.quoN ((u / 100 : Nat)) rfl rfl rfl (by omega) (by omega) (by omega)) rfl rfl rfl ?_
      | refine Jl.yd (Y.remN ((u % 100 : Nat)) rfl rfl rfl (by omega) (by omega) (by omega)) rfl rfl rfl ?_
      | refine Jl.yd (Y.quoN ((u / 10 % 10 : Nat)) rfl rfl rfl (by omega) (by omega) (by omega)) rfl rfl rfl ?_
      | refine Jl.yd (Y.remN ((u % 10 : Nat)) rfl rfl rfl (by omega) (by omega) (by omega)) rfl rfl rfl ?_
      | refine Jl.call1 (v := .string (dec _)) rfl rfl rfl rfl en26 rfl (fun w hW => by with_reducible exact dec_ _ (by omega) (by omega) w (hW.at 0 rfl)) ?_
      | refine Jl.splitG rfl rfl (fun h => ?_) (fun h => ?_))
    | (apply gateE; first
      | refine Jl.nil (Ej.go ?_ (fun _ _ h => h))
      | (refine Jl.nil (Ej.back (fun _ _ h => h) (by repeat (first | exact .refl | apply DropTo.tail)) ?_); repeat (first | exact trivial | refine ⟨rfl, ?_⟩)))
    | (apply gateC; first
      | refine Cj.ret rfl (Ej.out1 (P := Tryd.prog) (fn := Tryd.f22) (R := Rr) (fun _ _ h => h) rfl rfl (fun w' hW => ?_))
      | refine Cj.condF rfl rfl (Cj.skip rfl (Ej.go ?_ (fun _ _ h => h)))
      | (refine Cj.condF rfl rfl (Cj.skip rfl (Ej.back (fun _ _ h => h) (by repeat (first | exact .refl | apply DropTo.tail)) ?_)); repeat (first | exact trivial | refine ⟨rfl, ?_⟩))
      | refine Cj.condF rfl rfl ?_
      | refine Cj.condT rfl rfl ?_
      | refine Cj.exit rfl (Ej.go ?_ (fun _ _ h => h))
      | refine Cj.cond rfl rfl (fun h => ?_) (fun h => ?_)
      | refine Cj.skip rfl (Ej.go ?_ (fun _ _ h => h))
      | (refine Cj.skip rfl (Ej.back (fun _ _ h => h) (by repeat (first | exact .refl | apply DropTo.tail)) ?_); repeat (first | exact trivial | refine ⟨rfl, ?_⟩))
      | refine Cj.seq rfl ?_
      | refine Cj.region rfl ?_))
  exact ⟨by unfold cP; simp only [ByteArray.append_assoc], hW.below⟩
theorem cents_ (n : Int) (h : -1000000000000 ≤ n ∧ n ≤ 1000000000000) (w : World) (htab : Lib.TabIs Tryd.prog w tabName .u64 Lib.pow10Tab) : Calls Tryd.prog 22 #[.int .i64 n] w fun e w' => e = .returned (.string (cT n)) ∧ Below w.heap.size w w' := by
  unfold cT
  by_cases hn : n < 0
  · obtain ⟨u, rfl⟩ : ∃ u : Nat, n = -(u : Int) := ⟨n.natAbs, by omega⟩
    rw [if_pos hn, show (-(u : Int)).natAbs = u by omega]
    exact centsM u (by omega) (by omega) w htab
  · obtain ⟨u, rfl⟩ : ∃ u : Nat, n = (u : Int) := ⟨n.toNat, by omega⟩
    rw [if_neg hn, show ((u : Int)).natAbs = u by omega]
    exact centsN u (by omega) w htab
set_option maxHeartbeats 2000000 in
theorem CentsTextT (n : Int) (h : -100000000 ≤ n ∧ n ≤ 100000000) (w : World) (htab : Lib.TabIs Tryd.prog w tabName .u64 Lib.pow10Tab) : Calls Tryd.prog 8 #[.int .i64 n] w fun e w' => e = .returned (.tuple #[.string (cT n), .bool true]) ∧ Below w.heap.size w w' := by
  let Rr : Ending → World → Prop := fun e w' => e = .returned (.tuple #[.string (cT n), .bool true]) ∧ Below w.heap.size w w'
  have hc : impl_isCents.f n = some true := by simp [impl_isCents.f, impl_in.f, h.1, h.2]
  refine enterW (args := [.int .i64 n]) [fun W => Lib.TabIs Tryd.prog W tabName .u64 Lib.pow10Tab] (fun p hp W hb => by rw [List.mem_singleton.1 hp]; exact tab_below htab hb) Tryd.func8 rfl rfl ?_
  show Cj Tryd.prog _ _ _ (bodyPost Tryd.prog Tryd.f8 Rr) _ _ _
  repeat (first
    | (apply gateO; first
      | refine Jl.yd (Y.mv rfl rfl) rfl rfl rfl ?_
      | refine Jl.yd (Y.asg rfl rfl) rfl rfl rfl ?_
      | refine Jl.yd (Y.ext rfl rfl rfl) rfl rfl rfl ?_
      | refine Jl.yd (Y.pickT rfl rfl rfl) rfl rfl rfl ?_
      | refine Jl.yd (Y.pickF rfl rfl rfl) rfl rfl rfl ?_
      | refine Jl.off rfl rfl rfl ?_
      | refine Jl.yd (Y.cmpF rfl rfl rfl rfl (by omega)) rfl rfl rfl ?_
      | refine Jl.yd (Y.cmpT rfl rfl rfl rfl (by omega)) rfl rfl rfl ?_
      | refine Jl.yd (Y.neqB rfl rfl rfl Tryd.underlying4) rfl rfl rfl ?_
      | refine Jl.yd (Y.cmp rfl rfl rfl rfl) rfl rfl rfl ?_
      | refine Jl.yd (Y.not rfl rfl) rfl rfl rfl ?_
      | refine Jl.yd (Y.arithN rfl rfl rfl rfl (by omega)) rfl rfl rfl ?_
      | refine Jl.yd (Y.arith64 rfl rfl rfl rfl) rfl rfl rfl ?_
      | refine Jl.call1 (v := .bool true) rfl rfl rfl rfl en21 rfl (fun w hW => (impl_isCents.calls _ _ w hc).mono (fun _ _ h => ⟨h.1, bel_ h.2⟩)) ?_
      | refine Jl.call1 (v := .string (cT n)) rfl rfl rfl rfl en22 rfl (fun w hW => cents_ n (by omega) w (hW.at 0 rfl)) ?_
      | refine Jl.splitG rfl rfl (fun h => ?_) (fun h => ?_))
    | (apply gateE; first
      | refine Jl.nil (Ej.go ?_ (fun _ _ h => h))
      | (refine Jl.nil (Ej.back (fun _ _ h => h) (by repeat (first | exact .refl | apply DropTo.tail)) ?_); repeat (first | exact trivial | refine ⟨rfl, ?_⟩)))
    | (apply gateC; first
      | refine Cj.ret rfl (Ej.out2 (P := Tryd.prog) (fn := Tryd.f8) (R := Rr) (fun _ _ h => h) rfl rfl rfl (fun w' hW => ?_))
      | refine Cj.condF rfl rfl (Cj.skip rfl (Ej.go ?_ (fun _ _ h => h)))
      | (refine Cj.condF rfl rfl (Cj.skip rfl (Ej.back (fun _ _ h => h) (by repeat (first | exact .refl | apply DropTo.tail)) ?_)); repeat (first | exact trivial | refine ⟨rfl, ?_⟩))
      | refine Cj.condF rfl rfl ?_
      | refine Cj.condT rfl rfl ?_
      | refine Cj.exit rfl (Ej.go ?_ (fun _ _ h => h))
      | refine Cj.cond rfl rfl (fun h => ?_) (fun h => ?_)
      | refine Cj.skip rfl (Ej.go ?_ (fun _ _ h => h))
      | (refine Cj.skip rfl (Ej.back (fun _ _ h => h) (by repeat (first | exact .refl | apply DropTo.tail)) ?_); repeat (first | exact trivial | refine ⟨rfl, ?_⟩))
      | refine Cj.seq rfl ?_
      | refine Cj.region rfl ?_))
  exact ⟨rfl, hW.below⟩
set_option maxHeartbeats 2000000 in
theorem CentsTextF (n : Int) (h : ¬ (-100000000 ≤ n ∧ n ≤ 100000000)) (w : World) (htab : Lib.TabIs Tryd.prog w tabName .u64 Lib.pow10Tab) : Calls Tryd.prog 8 #[.int .i64 n] w fun e w' => e = .returned (.tuple #[.string ⟨#[]⟩, .bool false]) ∧ Below w.heap.size w w' := by
  let Rr : Ending → World → Prop := fun e w' => e = .returned (.tuple #[.string ⟨#[]⟩, .bool false]) ∧ Below w.heap.size w w'
  have hc : impl_isCents.f n = some false := by
    unfold impl_isCents.f impl_in.f
    by_cases h1 : n ≥ -100000000
    · rw [if_pos h1]; simp; omega
    · rw [if_neg h1]; rfl
  refine enterW (args := [.int .i64 n]) [fun W => Lib.TabIs Tryd.prog W tabName .u64 Lib.pow10Tab] (fun p hp W hb => by rw [List.mem_singleton.1 hp]; exact tab_below htab hb) Tryd.func8 rfl rfl ?_
  show Cj Tryd.prog _ _ _ (bodyPost Tryd.prog Tryd.f8 Rr) _ _ _
  repeat (first
    | (apply gateO; first
      | refine Jl.yd (Y.mv rfl rfl) rfl rfl rfl ?_
      | refine Jl.yd (Y.asg rfl rfl) rfl rfl rfl ?_
      | refine Jl.yd (Y.ext rfl rfl rfl) rfl rfl rfl ?_
      | refine Jl.yd (Y.pickT rfl rfl rfl) rfl rfl rfl ?_
      | refine Jl.yd (Y.pickF rfl rfl rfl) rfl rfl rfl ?_
      | refine Jl.off rfl rfl rfl ?_
      | refine Jl.yd (Y.cmpF rfl rfl rfl rfl (by omega)) rfl rfl rfl ?_
      | refine Jl.yd (Y.cmpT rfl rfl rfl rfl (by omega)) rfl rfl rfl ?_
      | refine Jl.yd (Y.neqB rfl rfl rfl Tryd.underlying4) rfl rfl rfl ?_
      | refine Jl.yd (Y.cmp rfl rfl rfl rfl) rfl rfl rfl ?_
      | refine Jl.yd (Y.not rfl rfl) rfl rfl rfl ?_
      | refine Jl.yd (Y.arithN rfl rfl rfl rfl (by omega)) rfl rfl rfl ?_
      | refine Jl.yd (Y.arith64 rfl rfl rfl rfl) rfl rfl rfl ?_
      | refine Jl.call1 (v := .bool false) rfl rfl rfl rfl en21 rfl (fun w hW => (impl_isCents.calls _ _ w hc).mono (fun _ _ h => ⟨h.1, bel_ h.2⟩)) ?_
      | refine Jl.splitG rfl rfl (fun h => ?_) (fun h => ?_))
    | (apply gateE; first
      | refine Jl.nil (Ej.go ?_ (fun _ _ h => h))
      | (refine Jl.nil (Ej.back (fun _ _ h => h) (by repeat (first | exact .refl | apply DropTo.tail)) ?_); repeat (first | exact trivial | refine ⟨rfl, ?_⟩)))
    | (apply gateC; first
      | refine Cj.ret rfl (Ej.out2 (P := Tryd.prog) (fn := Tryd.f8) (R := Rr) (fun _ _ h => h) rfl rfl rfl (fun w' hW => ?_))
      | refine Cj.condF rfl rfl (Cj.skip rfl (Ej.go ?_ (fun _ _ h => h)))
      | (refine Cj.condF rfl rfl (Cj.skip rfl (Ej.back (fun _ _ h => h) (by repeat (first | exact .refl | apply DropTo.tail)) ?_)); repeat (first | exact trivial | refine ⟨rfl, ?_⟩))
      | refine Cj.condF rfl rfl ?_
      | refine Cj.condT rfl rfl ?_
      | refine Cj.exit rfl (Ej.go ?_ (fun _ _ h => h))
      | refine Cj.cond rfl rfl (fun h => ?_) (fun h => ?_)
      | refine Cj.skip rfl (Ej.go ?_ (fun _ _ h => h))
      | (refine Cj.skip rfl (Ej.back (fun _ _ h => h) (by repeat (first | exact .refl | apply DropTo.tail)) ?_); repeat (first | exact trivial | refine ⟨rfl, ?_⟩))
      | refine Cj.seq rfl ?_
      | refine Cj.region rfl ?_))
  exact ⟨rfl, hW.below⟩
theorem num_ (u : Nat) (h : u ≤ 4611686018427387903) (w : World) : Calls Tryd.prog 30 #[.int .i64 (u : Int)] w fun e w' => e = .returned (.string (dec (u : Int))) ∧ Below w.heap.size w w' := by
  obtain ⟨k, hk⟩ := (num u h).rounds
  exact spec_l1Num.calls k _ _ w hk
theorem numI_ (n : Int) (h : 0 ≤ n ∧ n ≤ 4611686018427387903) (w : World) : Calls Tryd.prog 30 #[.int .i64 n] w fun e w' => e = .returned (.string (dec n)) ∧ Below w.heap.size w w' := by
  obtain ⟨u, rfl⟩ : ∃ u : Nat, n = (u : Int) := ⟨n.toNat, by omega⟩
  exact num_ u (by omega) w
set_option maxHeartbeats 2000000 in
theorem sTextP (u : Nat) (hu : u ≤ 1000000000000) (w : World) : Calls Tryd.prog 20 #[.int .i64 (u : Int)] w fun e w' => e = .returned (.string (cP u)) ∧ Below w.heap.size w w' := by
  let Rr : Ending → World → Prop := fun e w' => e = .returned (.string (cP u)) ∧ Below w.heap.size w w'
  have s1 := dec_sizeN (u / 100) (by omega)
  have s2 := dec_sizeN (u / 10 % 10) (by omega)
  have s3 := dec_sizeN (u % 10) (by omega)
  refine enterW (args := [.int .i64 (u : Int)]) [] (fun p hp W hb => by cases hp) Tryd.func20 rfl rfl ?_
  show Cj Tryd.prog _ _ _ (bodyPost Tryd.prog Tryd.f20 Rr) _ _ _
  repeat (first
    | (apply gateO; first
      | refine Jl.yd (Y.mv rfl rfl) rfl rfl rfl ?_
      | refine Jl.yd (Y.asg rfl rfl) rfl rfl rfl ?_
      | refine Jl.yd (Y.ext rfl rfl rfl) rfl rfl rfl ?_
      | refine Jl.yd (Y.pickT rfl rfl rfl) rfl rfl rfl ?_
      | refine Jl.yd (Y.pickF rfl rfl rfl) rfl rfl rfl ?_
      | refine Jl.off rfl rfl rfl ?_
      | refine Jl.yd (Y.cmpF rfl rfl rfl rfl (by omega)) rfl rfl rfl ?_
      | refine Jl.yd (Y.cmpT rfl rfl rfl rfl (by omega)) rfl rfl rfl ?_
      | refine Jl.yd (Y.neqB rfl rfl rfl Tryd.underlying4) rfl rfl rfl ?_
      | refine Jl.yd (Y.cmp rfl rfl rfl rfl) rfl rfl rfl ?_
      | refine Jl.yd (Y.not rfl rfl) rfl rfl rfl ?_
      | refine Jl.yd (Y.arithN rfl rfl rfl rfl (by omega)) rfl rfl rfl ?_
      | refine Jl.yd (Y.arith64 rfl rfl rfl rfl) rfl rfl rfl ?_
      | refine Jl.yd (Y.cat rfl rfl rfl (by (try simp only [ByteArray.size_append', ByteArray.size_mk', List.size_toArray, List.length_cons, List.length_nil]); omega)) rfl rfl rfl ?_
      | refine Jl.yd (Y.quoN ((u / 100 : Nat)) rfl rfl rfl (by omega) (by omega) (by omega)) rfl rfl rfl ?_
      | refine Jl.yd (Y.quoN ((u / 10 : Nat)) rfl rfl rfl (by omega) (by omega) (by omega)) rfl rfl rfl ?_
      | refine Jl.yd (Y.remN ((u / 10 % 10 : Nat)) rfl rfl rfl (by omega) (by omega) (by omega)) rfl rfl rfl ?_
      | refine Jl.yd (Y.remN ((u % 10 : Nat)) rfl rfl rfl (by omega) (by omega) (by omega)) rfl rfl rfl ?_
      | refine Jl.call1 (v := .string (dec _)) rfl rfl rfl rfl en30 rfl (fun w hW => by with_reducible exact numI_ _ (by omega) w) ?_
      | refine Jl.splitG rfl rfl (fun h => ?_) (fun h => ?_))
    | (apply gateE; first
      | refine Jl.nil (Ej.go ?_ (fun _ _ h => h))
      | (refine Jl.nil (Ej.back (fun _ _ h => h) (by repeat (first | exact .refl | apply DropTo.tail)) ?_); repeat (first | exact trivial | refine ⟨rfl, ?_⟩)))
    | (apply gateC; first
      | refine Cj.ret rfl (Ej.out1 (P := Tryd.prog) (fn := Tryd.f20) (R := Rr) (fun _ _ h => h) rfl rfl (fun w' hW => ?_))
      | refine Cj.condF rfl rfl (Cj.skip rfl (Ej.go ?_ (fun _ _ h => h)))
      | (refine Cj.condF rfl rfl (Cj.skip rfl (Ej.back (fun _ _ h => h) (by repeat (first | exact .refl | apply DropTo.tail)) ?_)); repeat (first | exact trivial | refine ⟨rfl, ?_⟩))
      | refine Cj.condF rfl rfl ?_
      | refine Cj.condT rfl rfl ?_
      | refine Cj.exit rfl (Ej.go ?_ (fun _ _ h => h))
      | refine Cj.cond rfl rfl (fun h => ?_) (fun h => ?_)
      | refine Cj.skip rfl (Ej.go ?_ (fun _ _ h => h))
      | (refine Cj.skip rfl (Ej.back (fun _ _ h => h) (by repeat (first | exact .refl | apply DropTo.tail)) ?_); repeat (first | exact trivial | refine ⟨rfl, ?_⟩))
      | refine Cj.seq rfl ?_
      | refine Cj.region rfl ?_))
  exact ⟨rfl, hW.below⟩
set_option maxHeartbeats 2000000 in
theorem sTextM (u : Nat) (hu : u ≤ 1000000000000) (hp : 1 ≤ u) (w : World) : Calls Tryd.prog 20 #[.int .i64 (-(u : Int))] w fun e w' => e = .returned (.string (⟨#[45]⟩ ++ cP u)) ∧ Below w.heap.size w w' := by
  let Rr : Ending → World → Prop := fun e w' => e = .returned (.string (⟨#[45]⟩ ++ cP u)) ∧ Below w.heap.size w w'
  have s1 := cP_size u (by omega)
  refine enterW (args := [.int .i64 (-(u : Int))]) [] (fun p hp W hb => by cases hp) Tryd.func20 rfl rfl ?_
  show Cj Tryd.prog _ _ _ (bodyPost Tryd.prog Tryd.f20 Rr) _ _ _
  repeat (first
    | (apply gateO; first
      | refine Jl.yd (Y.mv rfl rfl) rfl rfl rfl ?_
      | refine Jl.yd (Y.asg rfl rfl) rfl rfl rfl ?_
      | refine Jl.yd (Y.ext rfl rfl rfl) rfl rfl rfl ?_
      | refine Jl.yd (Y.pickT rfl rfl rfl) rfl rfl rfl ?_
      | refine Jl.yd (Y.pickF rfl rfl rfl) rfl rfl rfl ?_
      | refine Jl.off rfl rfl rfl ?_
      | refine Jl.yd (Y.cmpF rfl rfl rfl rfl (by omega)) rfl rfl rfl ?_
      | refine Jl.yd (Y.cmpT rfl rfl rfl rfl (by omega)) rfl rfl rfl ?_
      | refine Jl.yd (Y.neqB rfl rfl rfl Tryd.underlying4) rfl rfl rfl ?_
      | refine Jl.yd (Y.cmp rfl rfl rfl rfl) rfl rfl rfl ?_
      | refine Jl.yd (Y.not rfl rfl) rfl rfl rfl ?_
      | refine Jl.yd (Y.arithN rfl rfl rfl rfl (by omega)) rfl rfl rfl ?_
      | refine Jl.yd (Y.arith64 rfl rfl rfl rfl) rfl rfl rfl ?_
      | refine Jl.yd (Y.cat rfl rfl rfl (by (try simp only [ByteArray.size_append', ByteArray.size_mk', List.size_toArray, List.length_cons, List.length_nil]); omega)) rfl rfl rfl ?_
      | refine Jl.yd (Y.negN ((u : Int)) rfl rfl (by omega) (by omega)) rfl rfl rfl ?_
      | refine Jl.call1 (v := .string (cP u)) rfl rfl rfl rfl en20 rfl (fun w hW => sTextP u hu w) ?_
      | refine Jl.splitG rfl rfl (fun h => ?_) (fun h => ?_))
    | (apply gateE; first
      | refine Jl.nil (Ej.go ?_ (fun _ _ h => h))
      | (refine Jl.nil (Ej.back (fun _ _ h => h) (by repeat (first | exact .refl | apply DropTo.tail)) ?_); repeat (first | exact trivial | refine ⟨rfl, ?_⟩)))
    | (apply gateC; first
      | refine Cj.ret rfl (Ej.out1 (P := Tryd.prog) (fn := Tryd.f20) (R := Rr) (fun _ _ h => h) rfl rfl (fun w' hW => ?_))
      | refine Cj.condF rfl rfl (Cj.skip rfl (Ej.go ?_ (fun _ _ h => h)))
      | (refine Cj.condF rfl rfl (Cj.skip rfl (Ej.back (fun _ _ h => h) (by repeat (first | exact .refl | apply DropTo.tail)) ?_)); repeat (first | exact trivial | refine ⟨rfl, ?_⟩))
      | refine Cj.condF rfl rfl ?_
      | refine Cj.condT rfl rfl ?_
      | refine Cj.exit rfl (Ej.go ?_ (fun _ _ h => h))
      | refine Cj.cond rfl rfl (fun h => ?_) (fun h => ?_)
      | refine Cj.skip rfl (Ej.go ?_ (fun _ _ h => h))
      | (refine Cj.skip rfl (Ej.back (fun _ _ h => h) (by repeat (first | exact .refl | apply DropTo.tail)) ?_); repeat (first | exact trivial | refine ⟨rfl, ?_⟩))
      | refine Cj.seq rfl ?_
      | refine Cj.region rfl ?_))
  exact ⟨rfl, hW.below⟩
theorem sText_ (n : Int) (h : -1000000000000 ≤ n ∧ n ≤ 1000000000000) (w : World) : Calls Tryd.prog 20 #[.int .i64 n] w fun e w' => e = .returned (.string (cT n)) ∧ Below w.heap.size w w' := by
  unfold cT
  by_cases hn : n < 0
  · obtain ⟨u, rfl⟩ : ∃ u : Nat, n = -(u : Int) := ⟨n.natAbs, by omega⟩
    rw [if_pos hn, show (-(u : Int)).natAbs = u by omega]
    exact sTextM u (by omega) (by omega) w
  · obtain ⟨u, rfl⟩ : ∃ u : Nat, n = (u : Int) := ⟨n.toNat, by omega⟩
    rw [if_neg hn, show ((u : Int)).natAbs = u by omega]
    exact sTextP u (by omega) w
set_option maxHeartbeats 2000000 in
theorem sCentsT (n : Int) (h : -100000000 ≤ n ∧ n ≤ 100000000) (w : World) : Calls Tryd.prog 7 #[.int .i64 n] w fun e w' => e = .returned (.tuple #[.string (cT n), .bool true]) ∧ Below w.heap.size w w' := by
  let Rr : Ending → World → Prop := fun e w' => e = .returned (.tuple #[.string (cT n), .bool true]) ∧ Below w.heap.size w w'
  have hc : spec_l26Cents.f n = some true := by simp [spec_l26Cents.f, spec_l1In.f, h.1, h.2]
  refine enterW (args := [.int .i64 n]) [] (fun p hp W hb => by cases hp) Tryd.func7 rfl rfl ?_
  show Cj Tryd.prog _ _ _ (bodyPost Tryd.prog Tryd.f7 Rr) _ _ _
  repeat (first
    | (apply gateO; first
      | refine Jl.yd (Y.mv rfl rfl) rfl rfl rfl ?_
      | refine Jl.yd (Y.asg rfl rfl) rfl rfl rfl ?_
      | refine Jl.yd (Y.ext rfl rfl rfl) rfl rfl rfl ?_
      | refine Jl.yd (Y.pickT rfl rfl rfl) rfl rfl rfl ?_
      | refine Jl.yd (Y.pickF rfl rfl rfl) rfl rfl rfl ?_
      | refine Jl.off rfl rfl rfl ?_
      | refine Jl.yd (Y.cmpF rfl rfl rfl rfl (by omega)) rfl rfl rfl ?_
      | refine Jl.yd (Y.cmpT rfl rfl rfl rfl (by omega)) rfl rfl rfl ?_
      | refine Jl.yd (Y.neqB rfl rfl rfl Tryd.underlying4) rfl rfl rfl ?_
      | refine Jl.yd (Y.cmp rfl rfl rfl rfl) rfl rfl rfl ?_
      | refine Jl.yd (Y.not rfl rfl) rfl rfl rfl ?_
      | refine Jl.yd (Y.arithN rfl rfl rfl rfl (by omega)) rfl rfl rfl ?_
      | refine Jl.yd (Y.arith64 rfl rfl rfl rfl) rfl rfl rfl ?_
      | refine Jl.call1 (v := .bool true) rfl rfl rfl rfl en19 rfl (fun w hW => (spec_l26Cents.calls _ _ w hc).mono (fun _ _ h => ⟨h.1, bel_ h.2⟩)) ?_
      | refine Jl.call1 (v := .string (cT n)) rfl rfl rfl rfl en20 rfl (fun w hW => sText_ n (by omega) w) ?_
      | refine Jl.splitG rfl rfl (fun h => ?_) (fun h => ?_))
    | (apply gateE; first
      | refine Jl.nil (Ej.go ?_ (fun _ _ h => h))
      | (refine Jl.nil (Ej.back (fun _ _ h => h) (by repeat (first | exact .refl | apply DropTo.tail)) ?_); repeat (first | exact trivial | refine ⟨rfl, ?_⟩)))
    | (apply gateC; first
      | refine Cj.ret rfl (Ej.out2 (P := Tryd.prog) (fn := Tryd.f7) (R := Rr) (fun _ _ h => h) rfl rfl rfl (fun w' hW => ?_))
      | refine Cj.condF rfl rfl (Cj.skip rfl (Ej.go ?_ (fun _ _ h => h)))
      | (refine Cj.condF rfl rfl (Cj.skip rfl (Ej.back (fun _ _ h => h) (by repeat (first | exact .refl | apply DropTo.tail)) ?_)); repeat (first | exact trivial | refine ⟨rfl, ?_⟩))
      | refine Cj.condF rfl rfl ?_
      | refine Cj.condT rfl rfl ?_
      | refine Cj.exit rfl (Ej.go ?_ (fun _ _ h => h))
      | refine Cj.cond rfl rfl (fun h => ?_) (fun h => ?_)
      | refine Cj.skip rfl (Ej.go ?_ (fun _ _ h => h))
      | (refine Cj.skip rfl (Ej.back (fun _ _ h => h) (by repeat (first | exact .refl | apply DropTo.tail)) ?_); repeat (first | exact trivial | refine ⟨rfl, ?_⟩))
      | refine Cj.seq rfl ?_
      | refine Cj.region rfl ?_))
  exact ⟨rfl, hW.below⟩
set_option maxHeartbeats 2000000 in
theorem sCentsF (n : Int) (h : ¬ (-100000000 ≤ n ∧ n ≤ 100000000)) (w : World) : Calls Tryd.prog 7 #[.int .i64 n] w fun e w' => e = .returned (.tuple #[.string ⟨#[]⟩, .bool false]) ∧ Below w.heap.size w w' := by
  let Rr : Ending → World → Prop := fun e w' => e = .returned (.tuple #[.string ⟨#[]⟩, .bool false]) ∧ Below w.heap.size w w'
  have hc : spec_l26Cents.f n = some false := by
    unfold spec_l26Cents.f spec_l1In.f
    by_cases h1 : n ≥ -100000000
    · rw [if_pos h1]; simp; omega
    · rw [if_neg h1]; rfl
  refine enterW (args := [.int .i64 n]) [] (fun p hp W hb => by cases hp) Tryd.func7 rfl rfl ?_
  show Cj Tryd.prog _ _ _ (bodyPost Tryd.prog Tryd.f7 Rr) _ _ _
  repeat (first
    | (apply gateO; first
      | refine Jl.yd (Y.mv rfl rfl) rfl rfl rfl ?_
      | refine Jl.yd (Y.asg rfl rfl) rfl rfl rfl ?_
      | refine Jl.yd (Y.ext rfl rfl rfl) rfl rfl rfl ?_
      | refine Jl.yd (Y.pickT rfl rfl rfl) rfl rfl rfl ?_
      | refine Jl.yd (Y.pickF rfl rfl rfl) rfl rfl rfl ?_
      | refine Jl.off rfl rfl rfl ?_
      | refine Jl.yd (Y.cmpF rfl rfl rfl rfl (by omega)) rfl rfl rfl ?_
      | refine Jl.yd (Y.cmpT rfl rfl rfl rfl (by omega)) rfl rfl rfl ?_
      | refine Jl.yd (Y.neqB rfl rfl rfl Tryd.underlying4) rfl rfl rfl ?_
      | refine Jl.yd (Y.cmp rfl rfl rfl rfl) rfl rfl rfl ?_
      | refine Jl.yd (Y.not rfl rfl) rfl rfl rfl ?_
      | refine Jl.yd (Y.arithN rfl rfl rfl rfl (by omega)) rfl rfl rfl ?_
      | refine Jl.yd (Y.arith64 rfl rfl rfl rfl) rfl rfl rfl ?_
      | refine Jl.call1 (v := .bool false) rfl rfl rfl rfl en19 rfl (fun w hW => (spec_l26Cents.calls _ _ w hc).mono (fun _ _ h => ⟨h.1, bel_ h.2⟩)) ?_
      | refine Jl.splitG rfl rfl (fun h => ?_) (fun h => ?_))
    | (apply gateE; first
      | refine Jl.nil (Ej.go ?_ (fun _ _ h => h))
      | (refine Jl.nil (Ej.back (fun _ _ h => h) (by repeat (first | exact .refl | apply DropTo.tail)) ?_); repeat (first | exact trivial | refine ⟨rfl, ?_⟩)))
    | (apply gateC; first
      | refine Cj.ret rfl (Ej.out2 (P := Tryd.prog) (fn := Tryd.f7) (R := Rr) (fun _ _ h => h) rfl rfl rfl (fun w' hW => ?_))
      | refine Cj.condF rfl rfl (Cj.skip rfl (Ej.go ?_ (fun _ _ h => h)))
      | (refine Cj.condF rfl rfl (Cj.skip rfl (Ej.back (fun _ _ h => h) (by repeat (first | exact .refl | apply DropTo.tail)) ?_)); repeat (first | exact trivial | refine ⟨rfl, ?_⟩))
      | refine Cj.condF rfl rfl ?_
      | refine Cj.condT rfl rfl ?_
      | refine Cj.exit rfl (Ej.go ?_ (fun _ _ h => h))
      | refine Cj.cond rfl rfl (fun h => ?_) (fun h => ?_)
      | refine Cj.skip rfl (Ej.go ?_ (fun _ _ h => h))
      | (refine Cj.skip rfl (Ej.back (fun _ _ h => h) (by repeat (first | exact .refl | apply DropTo.tail)) ?_); repeat (first | exact trivial | refine ⟨rfl, ?_⟩))
      | refine Cj.seq rfl ?_
      | refine Cj.region rfl ?_))
  exact ⟨rfl, hW.below⟩
set_option maxHeartbeats 2000000 in
theorem lawCents (n : Int) (s : ByteArray) (b : Bool) (hs : ∀ w, Calls Tryd.prog 7 #[.int .i64 n] w fun e w' => e = .returned (.tuple #[.string s, .bool b]) ∧ Below w.heap.size w w') (hi : ∀ w, Lib.TabIs Tryd.prog w tabName .u64 Lib.pow10Tab → Calls Tryd.prog 8 #[.int .i64 n] w fun e w' => e = .returned (.tuple #[.string s, .bool b]) ∧ Below w.heap.size w w') (w : World) (htab : Lib.TabIs Tryd.prog w tabName .u64 Lib.pow10Tab) : Calls Tryd.prog 3 #[.int .i64 n] w fun e w' => e = .returned (.bool true) ∧ Below w.heap.size w w' := by
  let Rr : Ending → World → Prop := fun e w' => e = .returned (.bool true) ∧ Below w.heap.size w w'
  refine enterW (args := [.int .i64 n]) [fun W => Lib.TabIs Tryd.prog W tabName .u64 Lib.pow10Tab] (fun p hp W hb => by rw [List.mem_singleton.1 hp]; exact tab_below htab hb) Tryd.func3 rfl rfl ?_
  show Cj Tryd.prog _ _ _ (bodyPost Tryd.prog Tryd.f3 Rr) _ _ _
  repeat (first
    | (apply gateO; first
      | refine Jl.yd (Y.mv rfl rfl) rfl rfl rfl ?_
      | refine Jl.yd (Y.asg rfl rfl) rfl rfl rfl ?_
      | refine Jl.yd (Y.ext rfl rfl rfl) rfl rfl rfl ?_
      | refine Jl.yd (Y.pickT rfl rfl rfl) rfl rfl rfl ?_
      | refine Jl.yd (Y.pickF rfl rfl rfl) rfl rfl rfl ?_
      | refine Jl.off rfl rfl rfl ?_
      | refine Jl.yd (Y.cmpF rfl rfl rfl rfl (by omega)) rfl rfl rfl ?_
      | refine Jl.yd (Y.cmpT rfl rfl rfl rfl (by omega)) rfl rfl rfl ?_
      | refine Jl.yd (Y.neqB rfl rfl rfl Tryd.underlying4) rfl rfl rfl ?_
      | refine Jl.yd (Y.cmp rfl rfl rfl rfl) rfl rfl rfl ?_
      | refine Jl.yd (Y.not rfl rfl) rfl rfl rfl ?_
      | refine Jl.yd (Y.arithN rfl rfl rfl rfl (by omega)) rfl rfl rfl ?_
      | refine Jl.yd (Y.arith64 rfl rfl rfl rfl) rfl rfl rfl ?_
      | refine Jl.yd (Y.neSF rfl rfl rfl) rfl rfl rfl ?_
      | refine Jl.call1 (v := .tuple #[.string s, .bool b]) rfl rfl rfl rfl en7 rfl (fun w hW => hs w) ?_
      | refine Jl.call1 (v := .tuple #[.string s, .bool b]) rfl rfl rfl rfl en8 rfl (fun w hW => hi w (hW.at 0 rfl)) ?_
      | refine Jl.splitG rfl rfl (fun h => ?_) (fun h => ?_))
    | (apply gateE; first
      | refine Jl.nil (Ej.go ?_ (fun _ _ h => h))
      | (refine Jl.nil (Ej.back (fun _ _ h => h) (by repeat (first | exact .refl | apply DropTo.tail)) ?_); repeat (first | exact trivial | refine ⟨rfl, ?_⟩)))
    | (apply gateC; first
      | refine Cj.ret rfl (Ej.out1 (P := Tryd.prog) (fn := Tryd.f3) (R := Rr) (fun _ _ h => h) rfl rfl (fun w' hW => ?_))
      | refine Cj.condF rfl rfl (Cj.skip rfl (Ej.go ?_ (fun _ _ h => h)))
      | (refine Cj.condF rfl rfl (Cj.skip rfl (Ej.back (fun _ _ h => h) (by repeat (first | exact .refl | apply DropTo.tail)) ?_)); repeat (first | exact trivial | refine ⟨rfl, ?_⟩))
      | refine Cj.condF rfl rfl ?_
      | refine Cj.condT rfl rfl ?_
      | refine Cj.exit rfl (Ej.go ?_ (fun _ _ h => h))
      | refine Cj.cond rfl rfl (fun h => ?_) (fun h => ?_)
      | refine Cj.skip rfl (Ej.go ?_ (fun _ _ h => h))
      | (refine Cj.skip rfl (Ej.back (fun _ _ h => h) (by repeat (first | exact .refl | apply DropTo.tail)) ?_); repeat (first | exact trivial | refine ⟨rfl, ?_⟩))
      | refine Cj.seq rfl ?_
      | refine Cj.region rfl ?_))
  exact ⟨rfl, hW.below⟩
end Txt
end Go.Proofs.YthmgiagecgkmiaaDoor.WK
