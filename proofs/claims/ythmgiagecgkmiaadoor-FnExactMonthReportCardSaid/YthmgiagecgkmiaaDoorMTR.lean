import Derived.Test.YthmgiagecgkmiaaDoorSLW
import Derived.Test.YthmgiagecgkmiaaDoorMTM
import Derived.Test.YthmgiagecgkmiaaDoorMTA
import Derived.Test.YthmgiagecgkmiaaDoorMSw
import Derived.KernelRfl
import Derived.Test.YthmgiagecgkmiaaDoorQx14
import Derived.Test.YthmgiagecgkmiaaDoorQx16
import Derived.Test.YthmgiagecgkmiaaDoorQx28
import Derived.Test.YthmgiagecgkmiaaDoorQx31
import Derived.Test.YthmgiagecgkmiaaDoorQx8888801
namespace Go.Proofs.YthmgiagecgkmiaaDoor.WK
open Go Go.RowKit Go.Proofs.YthmgiagecgkmiaaDoor.Q Go.Proofs.YthmgiagecgkmiaaDoor.M Go.Proofs.YthmgiagecgkmiaaDoorW.PrintWords Go.Proofs.YthmgiagecgkmiaaDoorW.Pl Go.Proofs.YthmgiagecgkmiaaDoorW.SL Go.Proofs.YthmgiagecgkmiaaDoor.WK.Txt
set_option linter.unusedSimpArgs false
set_option linter.unusedVariables false
set_option maxRecDepth 100000
namespace Rep
theorem agg28 : AggT Tryd.prog 28 6 := ⟨by kernel_rfl⟩
theorem agg50 : AggT Tryd.prog 50 2 := ⟨by kernel_rfl⟩
theorem sz28 : SzT Tryd.prog 28 6 := ⟨by kernel_rfl⟩
theorem sz50 : SzT Tryd.prog 50 2 := ⟨by kernel_rfl⟩
theorem sc3 : ScT Tryd.prog 3 := ⟨by kernel_rfl⟩
theorem fld28_1 : FldT Tryd.prog 28 1 1 := ⟨by kernel_rfl⟩
theorem zero28 : ZeroT Tryd.prog 28 [.int .i64 0, .int .i64 0, .int .i64 0, .int .i64 0, .int .i64 0, .int .i64 0] := ⟨by kernel_rfl⟩
theorem zero50 : ZeroT Tryd.prog 50 [.pointer none, .slice none 0 0] := ⟨by kernel_rfl⟩
theorem el34 : ElT Tryd.prog 34 28 6 := ⟨by kernel_rfl⟩
theorem en28 : Ent Tryd.prog 28 := ⟨enters_of Tryd.func28 (by kernel_rfl) rfl⟩
theorem en24 : Ent Tryd.prog 24 := ⟨enters_of Tryd.func24 (by kernel_rfl) rfl⟩
theorem en29 : Ent Tryd.prog 29 := ⟨enters_of Tryd.func29 (by kernel_rfl) rfl⟩
theorem en19 : Ent Tryd.prog 19 := ⟨enters_of Tryd.func19 (by kernel_rfl) rfl⟩
theorem en30 : Ent Tryd.prog 30 := ⟨enters_of Tryd.func30 (by kernel_rfl) rfl⟩
theorem en20 : Ent Tryd.prog 20 := ⟨enters_of Tryd.func20 (by kernel_rfl) rfl⟩
theorem en31 : Ent Tryd.prog 31 := ⟨enters_of Tryd.func31 (by kernel_rfl) rfl⟩
theorem en11 : Ent Tryd.prog 11 := ⟨enters_of Tryd.func11 (by kernel_rfl) rfl⟩
theorem en32 : Ent Tryd.prog 32 := ⟨enters_of Tryd.func32 (by kernel_rfl) rfl⟩
theorem en27 : Ent Tryd.prog 27 := ⟨enters_of Tryd.func27 (by kernel_rfl) rfl⟩
theorem en21 : Ent Tryd.prog 21 := ⟨enters_of Tryd.func21 (by kernel_rfl) rfl⟩
theorem en33 : Ent Tryd.prog 33 := ⟨enters_of Tryd.func33 (by kernel_rfl) rfl⟩
theorem en26 : Ent Tryd.prog 26 := ⟨enters_of Tryd.func26 (by kernel_rfl) rfl⟩
theorem en22 : Ent Tryd.prog 22 := ⟨enters_of Tryd.func22 (by kernel_rfl) rfl⟩
theorem en12 : Ent Tryd.prog 12 := ⟨enters_of Tryd.func12 (by kernel_rfl) rfl⟩
theorem en13 : Ent Tryd.prog 13 := ⟨enters_of Tryd.func13 (by kernel_rfl) rfl⟩
theorem en14 : Ent Tryd.prog 14 := ⟨enters_of Tryd.func14 (by kernel_rfl) rfl⟩
theorem en15 : Ent Tryd.prog 15 := ⟨enters_of Tryd.func15 (by kernel_rfl) rfl⟩
theorem en16 : Ent Tryd.prog 16 := ⟨enters_of Tryd.func16 (by kernel_rfl) rfl⟩
theorem bld50 : ∀ w, (Instr.build 50 #[]).run Tryd.prog w = .ok (.agg #[.pointer none, .slice none 0 0]) w := fun w => by kernel_rfl
set_option maxHeartbeats 4000000 in
theorem sNo (A0 : Option Addr) (c0 : Nat) (xs : List S28) (kg : Nat) (hg : spec_l26Good.f kg xs = some false) (w : World) (hr0 : Kd.C k28 w A0 xs.length xs) (hc0 : xs.length ≤ c0) : Calls Tryd.prog 13 #[.slice A0 xs.length c0] w fun e w' => e = .returned (.tuple #[.string ⟨#[]⟩, .bool false]) ∧ Below w.heap.size w w' := by
  let Rr : Ending → World → Prop := fun e w' => e = .returned (.tuple #[.string ⟨#[]⟩, .bool false]) ∧ Below w.heap.size w w'
  refine enterW (args := [.slice A0 xs.length c0]) [(fun w => Kd.C k28 w A0 xs.length xs)] (fun p hp W hb => by
    rcases List.mem_cons.1 hp with rfl | hp
    · exact Kd.C_below hr0 hb
    · cases hp) Tryd.func13 rfl rfl ?_
  show Cj Tryd.prog _ _ _ (bodyPost Tryd.prog Tryd.f13 Rr) _ _ _
  repeat (first
    | (apply gateO; first
      | refine Jl.yd (Y.mv rfl rfl) rfl rfl rfl ?_
      | refine Jl.yd (Y.asg rfl rfl) rfl rfl rfl ?_
      | refine Jl.yd (Y.ext rfl rfl rfl) rfl rfl rfl ?_
      | refine Jl.yd (Y.pickT rfl rfl rfl) rfl rfl rfl ?_
      | refine Jl.yd (Y.pickF rfl rfl rfl) rfl rfl rfl ?_
      | refine Jl.off rfl rfl rfl ?_
      | refine Jl.yd (Y.cmpF rfl rfl rfl rfl (by omega)) rfl rfl rfl ?_
      | refine Jl.yd (Y.cmpT rfl rfl rfl rfl (by omega)) rfl rfl rfl ?_
      | refine Jl.yd (Y.neqB rfl rfl rfl Tryd.underlying4) rfl rfl rfl ?_
      | refine Jl.yd (Y.cmp rfl rfl rfl rfl) rfl rfl rfl ?_
      | refine Jl.yd (Y.not rfl rfl) rfl rfl rfl ?_
      | refine Jl.yd (Y.arithN rfl rfl rfl rfl (by omega)) rfl rfl rfl ?_
      | refine Jl.yd (Y.arith64 rfl rfl rfl rfl) rfl rfl rfl ?_
      | refine Jl.call1 (v := .bool false) rfl rfl rfl rfl en28 rfl (fun w hW => by with_reducible exact spec_l26Good.calls kg _ _ xs false w (hW.fact (by repeat (first | exact memH | refine memT ?_))) hc0 hg) ?_
      | refine Jl.splitG rfl rfl (fun h => ?_) (fun h => ?_))
    | (apply gateE; first
      | refine Jl.nil (Ej.go ?_ (fun _ _ h => h))
      | (refine Jl.nil (Ej.back (fun _ _ h => h) (by repeat (first | exact .refl | apply DropTo.tail)) ?_); repeat (first | exact trivial | refine ⟨rfl, ?_⟩)))
    | (apply gateC; first
      | refine Cj.ret rfl (Ej.out2 (P := Tryd.prog) (fn := Tryd.f13) (R := Rr) (fun _ _ h => h) rfl rfl rfl (fun w' hW => ?_))
      | refine Cj.condF rfl rfl (Cj.skip rfl (Ej.go ?_ (fun _ _ h => h)))
      | (refine Cj.condF rfl rfl (Cj.skip rfl (Ej.back (fun _ _ h => h) (by repeat (first | exact .refl | apply DropTo.tail)) ?_)); repeat (first | exact trivial | refine ⟨rfl, ?_⟩))
      | refine Cj.condF rfl rfl ?_
      | refine Cj.condT rfl rfl ?_
      | refine Cj.exit rfl (Ej.go ?_ (fun _ _ h => h))
      | refine Cj.cond rfl rfl (fun h => ?_) (fun h => ?_)
      | refine Cj.skip rfl (Ej.go ?_ (fun _ _ h => h))
      | (refine Cj.skip rfl (Ej.back (fun _ _ h => h) (by repeat (first | exact .refl | apply DropTo.tail)) ?_); repeat (first | exact trivial | refine ⟨rfl, ?_⟩))
      | refine Cj.seq rfl ?_
      | refine Cj.region rfl ?_))
  exact ⟨rfl, hW.below⟩
set_option maxHeartbeats 4000000 in
theorem iNo (A0 : Option Addr) (c0 : Nat) (xs : List S28) (kg : Nat) (hg : impl_AreMonthRows.f kg xs = some false) (w : World) (htab : Lib.TabIs Tryd.prog w tabName .u64 Lib.pow10Tab) (hr0 : Kd.C k28 w A0 xs.length xs) (hc0 : xs.length ≤ c0) : Calls Tryd.prog 15 #[.slice A0 xs.length c0] w fun e w' => e = .returned (.tuple #[.string ⟨#[]⟩, .bool false]) ∧ Below w.heap.size w w' := by
  let Rr : Ending → World → Prop := fun e w' => e = .returned (.tuple #[.string ⟨#[]⟩, .bool false]) ∧ Below w.heap.size w w'
  refine enterW (args := [.slice A0 xs.length c0]) [(fun w => Kd.C k28 w A0 xs.length xs), (fun W => Lib.TabIs Tryd.prog W tabName .u64 Lib.pow10Tab)] (fun p hp W hb => by
    rcases List.mem_cons.1 hp with rfl | hp
    · exact Kd.C_below hr0 hb
    · rw [List.mem_singleton.1 hp]; exact tab_below htab hb) Tryd.func15 rfl rfl ?_
  show Cj Tryd.prog _ _ _ (bodyPost Tryd.prog Tryd.f15 Rr) _ _ _
  repeat (first
    | (apply gateO; first
      | refine Jl.yd (Y.mv rfl rfl) rfl rfl rfl ?_
      | refine Jl.yd (Y.asg rfl rfl) rfl rfl rfl ?_
      | refine Jl.yd (Y.ext rfl rfl rfl) rfl rfl rfl ?_
      | refine Jl.yd (Y.pickT rfl rfl rfl) rfl rfl rfl ?_
      | refine Jl.yd (Y.pickF rfl rfl rfl) rfl rfl rfl ?_
      | refine Jl.off rfl rfl rfl ?_
      | refine Jl.yd (Y.cmpF rfl rfl rfl rfl (by omega)) rfl rfl rfl ?_
      | refine Jl.yd (Y.cmpT rfl rfl rfl rfl (by omega)) rfl rfl rfl ?_
      | refine Jl.yd (Y.neqB rfl rfl rfl Tryd.underlying4) rfl rfl rfl ?_
      | refine Jl.yd (Y.cmp rfl rfl rfl rfl) rfl rfl rfl ?_
      | refine Jl.yd (Y.not rfl rfl) rfl rfl rfl ?_
      | refine Jl.yd (Y.arithN rfl rfl rfl rfl (by omega)) rfl rfl rfl ?_
      | refine Jl.yd (Y.arith64 rfl rfl rfl rfl) rfl rfl rfl ?_
      | refine Jl.call1 (v := .bool false) rfl rfl rfl rfl en31 rfl (fun w hW => by with_reducible exact impl_AreMonthRows.calls kg _ _ xs false w (hW.fact (by repeat (first | exact memH | refine memT ?_))) hc0 hg) ?_
      | refine Jl.splitG rfl rfl (fun h => ?_) (fun h => ?_))
    | (apply gateE; first
      | refine Jl.nil (Ej.go ?_ (fun _ _ h => h))
      | (refine Jl.nil (Ej.back (fun _ _ h => h) (by repeat (first | exact .refl | apply DropTo.tail)) ?_); repeat (first | exact trivial | refine ⟨rfl, ?_⟩)))
    | (apply gateC; first
      | refine Cj.ret rfl (Ej.out2 (P := Tryd.prog) (fn := Tryd.f15) (R := Rr) (fun _ _ h => h) rfl rfl rfl (fun w' hW => ?_))
      | refine Cj.condF rfl rfl (Cj.skip rfl (Ej.go ?_ (fun _ _ h => h)))
      | (refine Cj.condF rfl rfl (Cj.skip rfl (Ej.back (fun _ _ h => h) (by repeat (first | exact .refl | apply DropTo.tail)) ?_)); repeat (first | exact trivial | refine ⟨rfl, ?_⟩))
      | refine Cj.condF rfl rfl ?_
      | refine Cj.condT rfl rfl ?_
      | refine Cj.exit rfl (Ej.go ?_ (fun _ _ h => h))
      | refine Cj.cond rfl rfl (fun h => ?_) (fun h => ?_)
      | refine Cj.skip rfl (Ej.go ?_ (fun _ _ h => h))
      | (refine Cj.skip rfl (Ej.back (fun _ _ h => h) (by repeat (first | exact .refl | apply DropTo.tail)) ?_); repeat (first | exact trivial | refine ⟨rfl, ?_⟩))
      | refine Cj.seq rfl ?_
      | refine Cj.region rfl ?_))
  exact ⟨rfl, hW.below⟩
set_option maxHeartbeats 4000000 in
theorem sT (A0 : Option Addr) (c0 : Nat) (xs : List S28) (kg : Nat) (hg : spec_l26Good.f kg xs = some true) (hgood : goodM xs = true) (hcc : spec_l26Cents.f (pS xs xs.length) = some true) (w : World) (hr0 : Kd.C k28 w A0 xs.length xs) (hc0 : xs.length ≤ c0) : Calls Tryd.prog 13 #[.slice A0 xs.length c0] w fun e w' => e = .returned (.tuple #[.string (repT xs), .bool true]) ∧ Below w.heap.size w w' := by
  let Rr : Ending → World → Prop := fun e w' => e = .returned (.tuple #[.string (repT xs), .bool true]) ∧ Below w.heap.size w w'
  obtain ⟨hl12, hgo⟩ := good_at hgood
  refine enterW (args := [.slice A0 xs.length c0]) [(fun w => Kd.C k28 w A0 xs.length xs)] (fun p hp W hb => by
    rcases List.mem_cons.1 hp with rfl | hp
    · exact Kd.C_below hr0 hb
    · cases hp) Tryd.func13 rfl rfl ?_
  show Cj Tryd.prog _ _ _ (bodyPost Tryd.prog Tryd.f13 Rr) _ _ _
  repeat (first
    | (apply gateO; first
      | refine Jl.yd (Y.mv rfl rfl) rfl rfl rfl ?_
      | refine Jl.yd (Y.asg rfl rfl) rfl rfl rfl ?_
      | refine Jl.yd (Y.ext rfl rfl rfl) rfl rfl rfl ?_
      | refine Jl.yd (Y.pickT rfl rfl rfl) rfl rfl rfl ?_
      | refine Jl.yd (Y.pickF rfl rfl rfl) rfl rfl rfl ?_
      | refine Jl.off rfl rfl rfl ?_
      | refine Jl.yd (Y.cmpF rfl rfl rfl rfl (by omega)) rfl rfl rfl ?_
      | refine Jl.yd (Y.cmpT rfl rfl rfl rfl (by omega)) rfl rfl rfl ?_
      | refine Jl.yd (Y.neqB rfl rfl rfl Tryd.underlying4) rfl rfl rfl ?_
      | refine Jl.yd (Y.cmp rfl rfl rfl rfl) rfl rfl rfl ?_
      | refine Jl.yd (Y.not rfl rfl) rfl rfl rfl ?_
      | refine Jl.yd (Y.arithN rfl rfl rfl rfl (by omega)) rfl rfl rfl ?_
      | refine Jl.yd (Y.arith64 rfl rfl rfl rfl) rfl rfl rfl ?_
      | refine Jl.call1 (v := .bool true) rfl rfl rfl rfl en28 rfl (fun w hW => by with_reducible exact spec_l26Good.calls kg _ _ xs true w (hW.fact (by repeat (first | exact memH | refine memT ?_))) hc0 hg) ?_
      | refine Jl.splitG rfl rfl (fun h => ?_) (fun h => ?_))
    | (apply gateE; first
      | refine Jl.nil (Ej.go ?_ (fun _ _ h => h))
      | (refine Jl.nil (Ej.back (fun _ _ h => h) (by repeat (first | exact .refl | apply DropTo.tail)) ?_); repeat (first | exact trivial | refine ⟨rfl, ?_⟩)))
    | (apply gateC; first
      | refine Cj.block rfl ?_
      | refine Cj.condF rfl rfl (Cj.skip rfl (Ej.go ?_ (fun _ _ h => h)))
      | (refine Cj.condF rfl rfl (Cj.skip rfl (Ej.back (fun _ _ h => h) (by repeat (first | exact .refl | apply DropTo.tail)) ?_)); repeat (first | exact trivial | refine ⟨rfl, ?_⟩))
      | refine Cj.condF rfl rfl ?_
      | refine Cj.condT rfl rfl ?_
      | refine Cj.exit rfl (Ej.go ?_ (fun _ _ h => h))
      | refine Cj.cond rfl rfl (fun h => ?_) (fun h => ?_)
      | refine Cj.skip rfl (Ej.go ?_ (fun _ _ h => h))
      | (refine Cj.skip rfl (Ej.back (fun _ _ h => h) (by repeat (first | exact .refl | apply DropTo.tail)) ?_); repeat (first | exact trivial | refine ⟨rfl, ?_⟩))
      | refine Cj.seq rfl ?_
      | refine Cj.region rfl ?_))
  refine Cj.loopP (ι := Nat × ByteArray × Int × Int) (fun q => q.1 ≤ xs.length ∧ q.2.1 = tT xs q.1 ∧ q.2.2.1 = cS xs q.1 ∧ q.2.2.2 = pS xs q.1) (fun q => [(0, .slice A0 xs.length c0), (4, .string q.2.1), (5, .int .i64 q.2.2.1), (6, .int .i64 q.2.2.2), (7, .int .i64 (q.1 : Int))])
    (fun q => []) (fun _ => [(fun w => Kd.C k28 w A0 xs.length xs)]) (fun q => xs.length - q.1) rfl (0, ⟨#[]⟩, 0, 0) ⟨Nat.zero_le _, rfl, rfl, rfl⟩ ⟨rfl, rfl, rfl, rfl, rfl, trivial⟩ (by repeat (first | exact .nil | refine Pick.cons (by repeat (first | exact .z | apply OutAt.s)) ?_)) (fun p hp => hp) (fun q hi => ?_)
  obtain ⟨i, s, c, p⟩ := q
  dsimp only at hi ⊢
  obtain ⟨hi, hs, hcq, hpq⟩ := hi
  by_cases hlt : i < xs.length
  · obtain ⟨ad0, he0, _⟩ := hr0.2.2 (by omega)
    subst he0
    obtain ⟨x, hx⟩ : ∃ x, xs.getD i z28 = x := ⟨_, rfl⟩
    have hus : ([.int .i64 (xs.getD ((i : Int)).toNat z28).f0, .int .i64 (xs.getD ((i : Int)).toNat z28).f1, .int .i64 (xs.getD ((i : Int)).toNat z28).f2, .int .i64 (xs.getD ((i : Int)).toNat z28).f3, .int .i64 (xs.getD ((i : Int)).toNat z28).f4, .int .i64 (xs.getD ((i : Int)).toNat z28).f5] : List Value) = [.int .i64 x.f0, .int .i64 x.f1, .int .i64 x.f2, .int .i64 x.f3, .int .i64 x.f4, .int .i64 x.f5] := by
      rw [Int.toNat_natCast, hx]
    have hok := hgo i hlt
    unfold nth at hok
    rw [hx] at hok
    obtain ⟨hm, hc, hn, hii, hss⟩ := okM_at hok
    have hsz := lineT_size x.f0 x.f1 x.f2 (x.f4 - x.f5) (by omega) (by omega) (by omega) (by omega)
    have hpf : spec_l26Profit.f x.f0 x.f1 x.f2 x.f3 x.f4 x.f5 = some (x.f4 - x.f5) := by unfold spec_l26Profit.f; rw [w64 (by omega)]
    obtain ⟨g1, g2, g3, g4, g5⟩ := parts_b hgood i (by omega)
    obtain ⟨n1, n2, n3, n4, n5⟩ := parts_b hgood (i + 1) (by omega)
    have eT : tT xs (i + 1) = tT xs i ++ rowT x := by rw [← hx]; rfl
    have eC : cS xs (i + 1) = cS xs i + x.f1 := by rw [← hx]; rfl
    have eP : pS xs (i + 1) = pS xs i + (x.f4 - x.f5) := by rw [← hx]; rfl
    rw [eC] at n2 n3
    rw [eP] at n4 n5
    rw [← hs] at g1
    rw [← hcq] at g2 g3 n2 n3
    rw [← hpq] at g4 g5 n4 n5
    repeat (first
    | (apply gateO; first
      | refine Jl.yd (Y.mv rfl rfl) rfl rfl rfl ?_
      | refine Jl.yd (Y.asg rfl rfl) rfl rfl rfl ?_
      | refine Jl.yd (Y.ext rfl rfl rfl) rfl rfl rfl ?_
      | refine Jl.yd (Y.pickT rfl rfl rfl) rfl rfl rfl ?_
      | refine Jl.yd (Y.pickF rfl rfl rfl) rfl rfl rfl ?_
      | refine Jl.off rfl rfl rfl ?_
      | refine Jl.yd (Y.cmpF rfl rfl rfl rfl (by omega)) rfl rfl rfl ?_
      | refine Jl.yd (Y.cmpT rfl rfl rfl rfl (by omega)) rfl rfl rfl ?_
      | refine Jl.yd (Y.neqB rfl rfl rfl Tryd.underlying4) rfl rfl rfl ?_
      | refine Jl.yd (Y.cmp rfl rfl rfl rfl) rfl rfl rfl ?_
      | refine Jl.yd (Y.not rfl rfl) rfl rfl rfl ?_
      | refine Jl.yd (Y.arithN rfl rfl rfl rfl (by omega)) rfl rfl rfl ?_
      | refine Jl.yd (Y.arith64 rfl rfl rfl rfl) rfl rfl rfl ?_
      | refine Jl.yd (Y.lenS Tryd.underlying34 rfl rfl rfl) rfl rfl rfl ?_
      | refine Jl.yd (Y.idx rfl rfl rfl el34 (by omega) (by omega)) rfl rfl rfl ?_
      | refine Jl.yd (Y.loadK z28 [.int .i64 x.f0, .int .i64 x.f1, .int .i64 x.f2, .int .i64 x.f3, .int .i64 x.f4, .int .i64 x.f5] rfl rfl agg28 (by repeat (first | exact .head _ | refine .tail _ ?_)) (i : Int) (by omega) (by omega) (by rfl) (fun w cs h => (k28_open h).trans hus) (by rfl)) rfl rfl rfl ?_
      | refine Jl.yd (Y.fld rfl rfl fld28_1) rfl rfl rfl ?_
      | refine Jl.yd (Y.loadK1 z28 [.int .i64 x.f0, .int .i64 x.f1, .int .i64 x.f2, .int .i64 x.f3, .int .i64 x.f4, .int .i64 x.f5] rfl rfl sc3 (by repeat (first | exact .head _ | refine .tail _ ?_)) (i : Int) 1 (by omega) (by omega) (by rfl) (fun w cs h => (k28_open h).trans hus) rfl) rfl rfl rfl ?_
      | refine Jl.yd (Y.cat rfl rfl rfl (by (try simp only [ByteArray.size_append', ByteArray.size_mk', List.size_toArray, List.length_cons, List.length_nil]); omega)) rfl rfl rfl ?_
      | refine Jl.call1 (v := .int .i64 (x.f4 - x.f5)) rfl rfl rfl rfl en29 rfl (fun w hW => spec_l26Profit.calls _ _ _ _ _ _ _ w hpf) ?_
      | refine Jl.call1 (v := .string (lineT x.f0 x.f1 x.f2 (x.f4 - x.f5))) rfl rfl rfl rfl en24 rfl (fun w hW => sLine_ _ _ _ _ _ _ hok w) ?_
      | refine Jl.splitG rfl rfl (fun h => ?_) (fun h => ?_))
    | (apply gateE; first
      | refine Jl.nil (Ej.go ?_ (fun _ _ h => h))
      | (refine Jl.nil (Ej.back (fun _ _ h => h) (by repeat (first | exact .refl | apply DropTo.tail)) ?_); repeat (first | exact trivial | refine ⟨rfl, ?_⟩)))
    | (apply gateC; first
      | refine Cj.block rfl ?_
      | refine Cj.condF rfl rfl (Cj.skip rfl (Ej.go ?_ (fun _ _ h => h)))
      | (refine Cj.condF rfl rfl (Cj.skip rfl (Ej.back (fun _ _ h => h) (by repeat (first | exact .refl | apply DropTo.tail)) ?_)); repeat (first | exact trivial | refine ⟨rfl, ?_⟩))
      | refine Cj.condF rfl rfl ?_
      | refine Cj.condT rfl rfl ?_
      | refine Cj.exit rfl (Ej.go ?_ (fun _ _ h => h))
      | refine Cj.cond rfl rfl (fun h => ?_) (fun h => ?_)
      | refine Cj.skip rfl (Ej.go ?_ (fun _ _ h => h))
      | (refine Cj.skip rfl (Ej.back (fun _ _ h => h) (by repeat (first | exact .refl | apply DropTo.tail)) ?_); repeat (first | exact trivial | refine ⟨rfl, ?_⟩))
      | refine Cj.seq rfl ?_
      | refine Cj.region rfl ?_))
    refine Jl.nil (Ej.cutP (ι := Nat × ByteArray × Int × Int) _ _ _ _ (fun _ _ h => h) (i + 1, (s ++ lineT x.f0 x.f1 x.f2 (x.f4 - x.f5)) ++ ⟨#[10]⟩, c + x.f1, p + (x.f4 - x.f5)) ⟨⟨by omega, by rw [eT, hs, ByteArray.append_assoc]; rfl, by rw [eC, hcq], by rw [eP, hpq]⟩, by dsimp only; omega⟩ ⟨rfl, rfl, rfl, rfl, rfl, trivial⟩ (by repeat (first | exact .nil | refine Pick.cons (by repeat (first | exact .z | apply OutAt.s)) ?_)) (fun p hp => hp))
  · obtain rfl : i = xs.length := by omega
    obtain ⟨g1, g2, g3, g4, g5⟩ := parts_b hgood xs.length (Nat.le_refl _)
    have d1 := dec_size (cS xs xs.length) (by omega) (by omega)
    have d2 := cT_size (pS xs xs.length) (by omega)
    rw [← hs] at g1
    rw [← hcq] at g2 g3 d1
    rw [← hpq] at g4 g5 d2 hcc
    repeat (first
    | (apply gateO; first
      | refine Jl.yd (Y.mv rfl rfl) rfl rfl rfl ?_
      | refine Jl.yd (Y.asg rfl rfl) rfl rfl rfl ?_
      | refine Jl.yd (Y.ext rfl rfl rfl) rfl rfl rfl ?_
      | refine Jl.yd (Y.pickT rfl rfl rfl) rfl rfl rfl ?_
      | refine Jl.yd (Y.pickF rfl rfl rfl) rfl rfl rfl ?_
      | refine Jl.off rfl rfl rfl ?_
      | refine Jl.yd (Y.cmpF rfl rfl rfl rfl (by omega)) rfl rfl rfl ?_
      | refine Jl.yd (Y.cmpT rfl rfl rfl rfl (by omega)) rfl rfl rfl ?_
      | refine Jl.yd (Y.neqB rfl rfl rfl Tryd.underlying4) rfl rfl rfl ?_
      | refine Jl.yd (Y.cmp rfl rfl rfl rfl) rfl rfl rfl ?_
      | refine Jl.yd (Y.not rfl rfl) rfl rfl rfl ?_
      | refine Jl.yd (Y.arithN rfl rfl rfl rfl (by omega)) rfl rfl rfl ?_
      | refine Jl.yd (Y.arith64 rfl rfl rfl rfl) rfl rfl rfl ?_
      | refine Jl.yd (Y.lenS Tryd.underlying34 rfl rfl rfl) rfl rfl rfl ?_
      | refine Jl.yd (Y.cat rfl rfl rfl (by (try simp only [ByteArray.size_append', ByteArray.size_mk', List.size_toArray, List.length_cons, List.length_nil]); omega)) rfl rfl rfl ?_
      | refine Jl.call1 (v := .bool true) rfl rfl rfl rfl en19 rfl (fun w hW => (spec_l26Cents.calls _ _ w hcc).mono (fun _ _ h => ⟨h.1, bel_ h.2⟩)) ?_
      | refine Jl.call1 (v := .string (dec c)) rfl rfl rfl rfl en30 rfl (fun w hW => numI_ c (by omega) w) ?_
      | refine Jl.call1 (v := .string (cT p)) rfl rfl rfl rfl en20 rfl (fun w hW => sText_ p (by omega) w) ?_
      | refine Jl.splitG rfl rfl (fun h => ?_) (fun h => ?_))
    | (apply gateE; first
      | refine Jl.nil (Ej.go ?_ (fun _ _ h => h))
      | (refine Jl.nil (Ej.back (fun _ _ h => h) (by repeat (first | exact .refl | apply DropTo.tail)) ?_); repeat (first | exact trivial | refine ⟨rfl, ?_⟩)))
    | (apply gateC; first
      | refine Cj.ret rfl (Ej.out2 (P := Tryd.prog) (fn := Tryd.f13) (R := Rr) (fun _ _ h => h) rfl rfl rfl (fun w' hW => ?_))
      | refine Cj.condF rfl rfl (Cj.skip rfl (Ej.go ?_ (fun _ _ h => h)))
      | (refine Cj.condF rfl rfl (Cj.skip rfl (Ej.back (fun _ _ h => h) (by repeat (first | exact .refl | apply DropTo.tail)) ?_)); repeat (first | exact trivial | refine ⟨rfl, ?_⟩))
      | refine Cj.condF rfl rfl ?_
      | refine Cj.condT rfl rfl ?_
      | refine Cj.exit rfl (Ej.go ?_ (fun _ _ h => h))
      | refine Cj.cond rfl rfl (fun h => ?_) (fun h => ?_)
      | refine Cj.skip rfl (Ej.go ?_ (fun _ _ h => h))
      | (refine Cj.skip rfl (Ej.back (fun _ _ h => h) (by repeat (first | exact .refl | apply DropTo.tail)) ?_); repeat (first | exact trivial | refine ⟨rfl, ?_⟩))
      | refine Cj.seq rfl ?_
      | refine Cj.region rfl ?_))
    exact ⟨by rw [hs, hcq, hpq]; rfl, hW.below⟩
set_option maxHeartbeats 4000000 in
theorem sF (A0 : Option Addr) (c0 : Nat) (xs : List S28) (kg : Nat) (hg : spec_l26Good.f kg xs = some true) (hgood : goodM xs = true) (hcc : spec_l26Cents.f (pS xs xs.length) = some false) (w : World) (hr0 : Kd.C k28 w A0 xs.length xs) (hc0 : xs.length ≤ c0) : Calls Tryd.prog 13 #[.slice A0 xs.length c0] w fun e w' => e = .returned (.tuple #[.string ⟨#[]⟩, .bool false]) ∧ Below w.heap.size w w' := by
  let Rr : Ending → World → Prop := fun e w' => e = .returned (.tuple #[.string ⟨#[]⟩, .bool false]) ∧ Below w.heap.size w w'
  obtain ⟨hl12, hgo⟩ := good_at hgood
  refine enterW (args := [.slice A0 xs.length c0]) [(fun w => Kd.C k28 w A0 xs.length xs)] (fun p hp W hb => by
    rcases List.mem_cons.1 hp with rfl | hp
    · exact Kd.C_below hr0 hb
    · cases hp) Tryd.func13 rfl rfl ?_
  show Cj Tryd.prog _ _ _ (bodyPost Tryd.prog Tryd.f13 Rr) _ _ _
  repeat (first
    | (apply gateO; first
      | refine Jl.yd (Y.mv rfl rfl) rfl rfl rfl ?_
      | refine Jl.yd (Y.asg rfl rfl) rfl rfl rfl ?_
      | refine Jl.yd (Y.ext rfl rfl rfl) rfl rfl rfl ?_
      | refine Jl.yd (Y.pickT rfl rfl rfl) rfl rfl rfl ?_
      | refine Jl.yd (Y.pickF rfl rfl rfl) rfl rfl rfl ?_
      | refine Jl.off rfl rfl rfl ?_
      | refine Jl.yd (Y.cmpF rfl rfl rfl rfl (by omega)) rfl rfl rfl ?_
      | refine Jl.yd (Y.cmpT rfl rfl rfl rfl (by omega)) rfl rfl rfl ?_
      | refine Jl.yd (Y.neqB rfl rfl rfl Tryd.underlying4) rfl rfl rfl ?_
      | refine Jl.yd (Y.cmp rfl rfl rfl rfl) rfl rfl rfl ?_
      | refine Jl.yd (Y.not rfl rfl) rfl rfl rfl ?_
      | refine Jl.yd (Y.arithN rfl rfl rfl rfl (by omega)) rfl rfl rfl ?_
      | refine Jl.yd (Y.arith64 rfl rfl rfl rfl) rfl rfl rfl ?_
      | refine Jl.call1 (v := .bool true) rfl rfl rfl rfl en28 rfl (fun w hW => by with_reducible exact spec_l26Good.calls kg _ _ xs true w (hW.fact (by repeat (first | exact memH | refine memT ?_))) hc0 hg) ?_
      | refine Jl.splitG rfl rfl (fun h => ?_) (fun h => ?_))
    | (apply gateE; first
      | refine Jl.nil (Ej.go ?_ (fun _ _ h => h))
      | (refine Jl.nil (Ej.back (fun _ _ h => h) (by repeat (first | exact .refl | apply DropTo.tail)) ?_); repeat (first | exact trivial | refine ⟨rfl, ?_⟩)))
    | (apply gateC; first
      | refine Cj.block rfl ?_
      | refine Cj.condF rfl rfl (Cj.skip rfl (Ej.go ?_ (fun _ _ h => h)))
      | (refine Cj.condF rfl rfl (Cj.skip rfl (Ej.back (fun _ _ h => h) (by repeat (first | exact .refl | apply DropTo.tail)) ?_)); repeat (first | exact trivial | refine ⟨rfl, ?_⟩))
      | refine Cj.condF rfl rfl ?_
      | refine Cj.condT rfl rfl ?_
      | refine Cj.exit rfl (Ej.go ?_ (fun _ _ h => h))
      | refine Cj.cond rfl rfl (fun h => ?_) (fun h => ?_)
      | refine Cj.skip rfl (Ej.go ?_ (fun _ _ h => h))
      | (refine Cj.skip rfl (Ej.back (fun _ _ h => h) (by repeat (first | exact .refl | apply DropTo.tail)) ?_); repeat (first | exact trivial | refine ⟨rfl, ?_⟩))
      | refine Cj.seq rfl ?_
      | refine Cj.region rfl ?_))
  refine Cj.loopP (ι := Nat × ByteArray × Int × Int) (fun q => q.1 ≤ xs.length ∧ q.2.1 = tT xs q.1 ∧ q.2.2.1 = cS xs q.1 ∧ q.2.2.2 = pS xs q.1) (fun q => [(0, .slice A0 xs.length c0), (4, .string q.2.1), (5, .int .i64 q.2.2.1), (6, .int .i64 q.2.2.2), (7, .int .i64 (q.1 : Int))])
    (fun q => []) (fun _ => [(fun w => Kd.C k28 w A0 xs.length xs)]) (fun q => xs.length - q.1) rfl (0, ⟨#[]⟩, 0, 0) ⟨Nat.zero_le _, rfl, rfl, rfl⟩ ⟨rfl, rfl, rfl, rfl, rfl, trivial⟩ (by repeat (first | exact .nil | refine Pick.cons (by repeat (first | exact .z | apply OutAt.s)) ?_)) (fun p hp => hp) (fun q hi => ?_)
  obtain ⟨i, s, c, p⟩ := q
  dsimp only at hi ⊢
  obtain ⟨hi, hs, hcq, hpq⟩ := hi
  by_cases hlt : i < xs.length
  · obtain ⟨ad0, he0, _⟩ := hr0.2.2 (by omega)
    subst he0
    obtain ⟨x, hx⟩ : ∃ x, xs.getD i z28 = x := ⟨_, rfl⟩
    have hus : ([.int .i64 (xs.getD ((i : Int)).toNat z28).f0, .int .i64 (xs.getD ((i : Int)).toNat z28).f1, .int .i64 (xs.getD ((i : Int)).toNat z28).f2, .int .i64 (xs.getD ((i : Int)).toNat z28).f3, .int .i64 (xs.getD ((i : Int)).toNat z28).f4, .int .i64 (xs.getD ((i : Int)).toNat z28).f5] : List Value) = [.int .i64 x.f0, .int .i64 x.f1, .int .i64 x.f2, .int .i64 x.f3, .int .i64 x.f4, .int .i64 x.f5] := by
      rw [Int.toNat_natCast, hx]
    have hok := hgo i hlt
    unfold nth at hok
    rw [hx] at hok
    obtain ⟨hm, hc, hn, hii, hss⟩ := okM_at hok
    have hsz := lineT_size x.f0 x.f1 x.f2 (x.f4 - x.f5) (by omega) (by omega) (by omega) (by omega)
    have hpf : spec_l26Profit.f x.f0 x.f1 x.f2 x.f3 x.f4 x.f5 = some (x.f4 - x.f5) := by unfold spec_l26Profit.f; rw [w64 (by omega)]
    obtain ⟨g1, g2, g3, g4, g5⟩ := parts_b hgood i (by omega)
    obtain ⟨n1, n2, n3, n4, n5⟩ := parts_b hgood (i + 1) (by omega)
    have eT : tT xs (i + 1) = tT xs i ++ rowT x := by rw [← hx]; rfl
    have eC : cS xs (i + 1) = cS xs i + x.f1 := by rw [← hx]; rfl
    have eP : pS xs (i + 1) = pS xs i + (x.f4 - x.f5) := by rw [← hx]; rfl
    rw [eC] at n2 n3
    rw [eP] at n4 n5
    rw [← hs] at g1
    rw [← hcq] at g2 g3 n2 n3
    rw [← hpq] at g4 g5 n4 n5
    repeat (first
    | (apply gateO; first
      | refine Jl.yd (Y.mv rfl rfl) rfl rfl rfl ?_
      | refine Jl.yd (Y.asg rfl rfl) rfl rfl rfl ?_
      | refine Jl.yd (Y.ext rfl rfl rfl) rfl rfl rfl ?_
      | refine Jl.yd (Y.pickT rfl rfl rfl) rfl rfl rfl ?_
      | refine Jl.yd (Y.pickF rfl rfl rfl) rfl rfl rfl ?_
      | refine Jl.off rfl rfl rfl ?_
      | refine Jl.yd (Y.cmpF rfl rfl rfl rfl (by omega)) rfl rfl rfl ?_
      | refine Jl.yd (Y.cmpT rfl rfl rfl rfl (by omega)) rfl rfl rfl ?_
      | refine Jl.yd (Y.neqB rfl rfl rfl Tryd.underlying4) rfl rfl rfl ?_
      | refine Jl.yd (Y.cmp rfl rfl rfl rfl) rfl rfl rfl ?_
      | refine Jl.yd (Y.not rfl rfl) rfl rfl rfl ?_
      | refine Jl.yd (Y.arithN rfl rfl rfl rfl (by omega)) rfl rfl rfl ?_
      | refine Jl.yd (Y.arith64 rfl rfl rfl rfl) rfl rfl rfl ?_
      | refine Jl.yd (Y.lenS Tryd.underlying34 rfl rfl rfl) rfl rfl rfl ?_
      | refine Jl.yd (Y.idx rfl rfl rfl el34 (by omega) (by omega)) rfl rfl rfl ?_
      | refine Jl.yd (Y.loadK z28 [.int .i64 x.f0, .int .i64 x.f1, .int .i64 x.f2, .int .i64 x.f3, .int .i64 x.f4, .int .i64 x.f5] rfl rfl agg28 (by repeat (first | exact .head _ | refine .tail _ ?_)) (i : Int) (by omega) (by omega) (by rfl) (fun w cs h => (k28_open h).trans hus) (by rfl)) rfl rfl rfl ?_
      | refine Jl.yd (Y.fld rfl rfl fld28_1) rfl rfl rfl ?_
      | refine Jl.yd (Y.loadK1 z28 [.int .i64 x.f0, .int .i64 x.f1, .int .i64 x.f2, .int .i64 x.f3, .int .i64 x.f4, .int .i64 x.f5] rfl rfl sc3 (by repeat (first | exact .head _ | refine .tail _ ?_)) (i : Int) 1 (by omega) (by omega) (by rfl) (fun w cs h => (k28_open h).trans hus) rfl) rfl rfl rfl ?_
      | refine Jl.yd (Y.cat rfl rfl rfl (by (try simp only [ByteArray.size_append', ByteArray.size_mk', List.size_toArray, List.length_cons, List.length_nil]); omega)) rfl rfl rfl ?_
      | refine Jl.call1 (v := .int .i64 (x.f4 - x.f5)) rfl rfl rfl rfl en29 rfl (fun w hW => spec_l26Profit.calls _ _ _ _ _ _ _ w hpf) ?_
      | refine Jl.call1 (v := .string (lineT x.f0 x.f1 x.f2 (x.f4 - x.f5))) rfl rfl rfl rfl en24 rfl (fun w hW => sLine_ _ _ _ _ _ _ hok w) ?_
      | refine Jl.splitG rfl rfl (fun h => ?_) (fun h => ?_))
    | (apply gateE; first
      | refine Jl.nil (Ej.go ?_ (fun _ _ h => h))
      | (refine Jl.nil (Ej.back (fun _ _ h => h) (by repeat (first | exact .refl | apply DropTo.tail)) ?_); repeat (first | exact trivial | refine ⟨rfl, ?_⟩)))
    | (apply gateC; first
      | refine Cj.block rfl ?_
      | refine Cj.condF rfl rfl (Cj.skip rfl (Ej.go ?_ (fun _ _ h => h)))
      | (refine Cj.condF rfl rfl (Cj.skip rfl (Ej.back (fun _ _ h => h) (by repeat (first | exact .refl | apply DropTo.tail)) ?_)); repeat (first | exact trivial | refine ⟨rfl, ?_⟩))
      | refine Cj.condF rfl rfl ?_
      | refine Cj.condT rfl rfl ?_
      | refine Cj.exit rfl (Ej.go ?_ (fun _ _ h => h))
      | refine Cj.cond rfl rfl (fun h => ?_) (fun h => ?_)
      | refine Cj.skip rfl (Ej.go ?_ (fun _ _ h => h))
      | (refine Cj.skip rfl (Ej.back (fun _ _ h => h) (by repeat (first | exact .refl | apply DropTo.tail)) ?_); repeat (first | exact trivial | refine ⟨rfl, ?_⟩))
      | refine Cj.seq rfl ?_
      | refine Cj.region rfl ?_))
    refine Jl.nil (Ej.cutP (ι := Nat × ByteArray × Int × Int) _ _ _ _ (fun _ _ h => h) (i + 1, (s ++ lineT x.f0 x.f1 x.f2 (x.f4 - x.f5)) ++ ⟨#[10]⟩, c + x.f1, p + (x.f4 - x.f5)) ⟨⟨by omega, by rw [eT, hs, ByteArray.append_assoc]; rfl, by rw [eC, hcq], by rw [eP, hpq]⟩, by dsimp only; omega⟩ ⟨rfl, rfl, rfl, rfl, rfl, trivial⟩ (by repeat (first | exact .nil | refine Pick.cons (by repeat (first | exact .z | apply OutAt.s)) ?_)) (fun p hp => hp))
  · obtain rfl : i = xs.length := by omega
    obtain ⟨g1, g2, g3, g4, g5⟩ := parts_b hgood xs.length (Nat.le_refl _)
    have d1 := dec_size (cS xs xs.length) (by omega) (by omega)
    have d2 := cT_size (pS xs xs.length) (by omega)
    rw [← hs] at g1
    rw [← hcq] at g2 g3 d1
    rw [← hpq] at g4 g5 d2 hcc
    repeat (first
    | (apply gateO; first
      | refine Jl.yd (Y.mv rfl rfl) rfl rfl rfl ?_
      | refine Jl.yd (Y.asg rfl rfl) rfl rfl rfl ?_
      | refine Jl.yd (Y.ext rfl rfl rfl) rfl rfl rfl ?_
      | refine Jl.yd (Y.pickT rfl rfl rfl) rfl rfl rfl ?_
      | refine Jl.yd (Y.pickF rfl rfl rfl) rfl rfl rfl ?_
      | refine Jl.off rfl rfl rfl ?_
      | refine Jl.yd (Y.cmpF rfl rfl rfl rfl (by omega)) rfl rfl rfl ?_
      | refine Jl.yd (Y.cmpT rfl rfl rfl rfl (by omega)) rfl rfl rfl ?_
      | refine Jl.yd (Y.neqB rfl rfl rfl Tryd.underlying4) rfl rfl rfl ?_
      | refine Jl.yd (Y.cmp rfl rfl rfl rfl) rfl rfl rfl ?_
      | refine Jl.yd (Y.not rfl rfl) rfl rfl rfl ?_
      | refine Jl.yd (Y.arithN rfl rfl rfl rfl (by omega)) rfl rfl rfl ?_
      | refine Jl.yd (Y.arith64 rfl rfl rfl rfl) rfl rfl rfl ?_
      | refine Jl.yd (Y.lenS Tryd.underlying34 rfl rfl rfl) rfl rfl rfl ?_
      | refine Jl.yd (Y.cat rfl rfl rfl (by (try simp only [ByteArray.size_append', ByteArray.size_mk', List.size_toArray, List.length_cons, List.length_nil]); omega)) rfl rfl rfl ?_
      | refine Jl.call1 (v := .bool false) rfl rfl rfl rfl en19 rfl (fun w hW => (spec_l26Cents.calls _ _ w hcc).mono (fun _ _ h => ⟨h.1, bel_ h.2⟩)) ?_
      | refine Jl.call1 (v := .string (dec c)) rfl rfl rfl rfl en30 rfl (fun w hW => numI_ c (by omega) w) ?_
      | refine Jl.call1 (v := .string (cT p)) rfl rfl rfl rfl en20 rfl (fun w hW => sText_ p (by omega) w) ?_
      | refine Jl.splitG rfl rfl (fun h => ?_) (fun h => ?_))
    | (apply gateE; first
      | refine Jl.nil (Ej.go ?_ (fun _ _ h => h))
      | (refine Jl.nil (Ej.back (fun _ _ h => h) (by repeat (first | exact .refl | apply DropTo.tail)) ?_); repeat (first | exact trivial | refine ⟨rfl, ?_⟩)))
    | (apply gateC; first
      | refine Cj.ret rfl (Ej.out2 (P := Tryd.prog) (fn := Tryd.f13) (R := Rr) (fun _ _ h => h) rfl rfl rfl (fun w' hW => ?_))
      | refine Cj.condF rfl rfl (Cj.skip rfl (Ej.go ?_ (fun _ _ h => h)))
      | (refine Cj.condF rfl rfl (Cj.skip rfl (Ej.back (fun _ _ h => h) (by repeat (first | exact .refl | apply DropTo.tail)) ?_)); repeat (first | exact trivial | refine ⟨rfl, ?_⟩))
      | refine Cj.condF rfl rfl ?_
      | refine Cj.condT rfl rfl ?_
      | refine Cj.exit rfl (Ej.go ?_ (fun _ _ h => h))
      | refine Cj.cond rfl rfl (fun h => ?_) (fun h => ?_)
      | refine Cj.skip rfl (Ej.go ?_ (fun _ _ h => h))
      | (refine Cj.skip rfl (Ej.back (fun _ _ h => h) (by repeat (first | exact .refl | apply DropTo.tail)) ?_); repeat (first | exact trivial | refine ⟨rfl, ?_⟩))
      | refine Cj.seq rfl ?_
      | refine Cj.region rfl ?_))
    exact ⟨rfl, hW.below⟩
theorem strCells_app (a b : ByteArray) : Lib.strCells (a ++ b) = Lib.strCells a ++ Lib.strCells b := by simp [Lib.strCells]
theorem wstr_ (B b : Nat) (s u : ByteArray) (w : World) (h : Lib.IsBuilderF 50 5 B b (Lib.strCells s) w) (hB : B ≤ w.heap.size) (hl : s.size + u.size ≤ 140737488355328) : Calls Tryd.prog 32 #[.pointer (some ⟨b, 0, none⟩), .string u] w fun e' w' => e' = .returned (.tuple #[.int .i64 (u.size : Int), .nilIface]) ∧ Lib.IsBuilderF 50 5 B b (Lib.strCells (s ++ u)) w' ∧ Below B w w' ∧ Lib.OthersKept 5 (some b) w w' := by
  refine (writes B b (Lib.strCells s) u w h (by rw [Lib.strCells_length]; exact hl) hB).mono ?_
  rintro e w' ⟨rfl, h1, h2, h3⟩
  rw [← strCells_app] at h1
  exact ⟨rfl, .inr h1, h2, h3⟩
theorem sz1 (u : ByteArray) : (u ++ ⟨#[10]⟩ : ByteArray).size = u.size + 1 := ByteArray.size_append' u ⟨#[10]⟩
theorem T3 (s u v : ByteArray) (hv : v = u ++ ⟨#[10]⟩) (hl : s.size + u.size + 1 ≤ 140737488355328) : s.size + v.size ≤ 140737488355328 := by
  rw [hv, sz1, ← Nat.add_assoc]; exact hl
theorem wstr1_ (B b : Nat) (s u : ByteArray) (w : World) (h : Lib.IsBuilderF 50 5 B b (Lib.strCells s) w) (hB : B ≤ w.heap.size) (hl : s.size + u.size + 1 ≤ 140737488355328) : Calls Tryd.prog 32 #[.pointer (some ⟨b, 0, none⟩), .string (u ++ ⟨#[10]⟩)] w fun e' w' => e' = .returned (.tuple #[.int .i64 ((u ++ ⟨#[10]⟩ : ByteArray).size : Int), .nilIface]) ∧ Lib.IsBuilderF 50 5 B b (Lib.strCells (s ++ (u ++ ⟨#[10]⟩))) w' ∧ Below B w w' ∧ Lib.OthersKept 5 (some b) w w' := by
  obtain ⟨v, hv⟩ : ∃ v, v = u ++ ⟨#[10]⟩ := ⟨_, rfl⟩
  have h2 := T3 s u v hv hl
  rw [← hv]
  exact wstr_ B b s v w h hB h2
theorem str_ (B b : Nat) (s : ByteArray) (w : World) (h : Lib.IsBuilderF 50 5 B b (Lib.strCells s) w) (hB : B ≤ w.heap.size) : Calls Tryd.prog 33 #[.pointer (some ⟨b, 0, none⟩)] w fun e' w' => e' = .returned (.string s) ∧ Lib.IsBuilderF 50 5 B b (Lib.strCells s) w' ∧ Below B w w' ∧ Lib.OthersKept 5 (some b) w w' := by
  have e : Lib.strCells s = Lib.byteCells s.data.toList := rfl
  rw [e] at h ⊢
  exact Tryd.Builder_String_any_k B b s.data.toList w h hB
set_option maxHeartbeats 4000000 in
theorem iT (A0 : Option Addr) (c0 : Nat) (xs : List S28) (kg : Nat) (hg : impl_AreMonthRows.f kg xs = some true) (hgood : goodM xs = true) (hcc : impl_isCents.f (pS xs xs.length) = some true) (w : World) (htab : Lib.TabIs Tryd.prog w tabName .u64 Lib.pow10Tab) (hr0 : Kd.C k28 w A0 xs.length xs) (hc0 : xs.length ≤ c0) : Calls Tryd.prog 15 #[.slice A0 xs.length c0] w fun e w' => e = .returned (.tuple #[.string (repT xs), .bool true]) ∧ Below w.heap.size w w' := by
  let Rr : Ending → World → Prop := fun e w' => e = .returned (.tuple #[.string (repT xs), .bool true]) ∧ Below w.heap.size w w'
  obtain ⟨hl12, hgo⟩ := good_at hgood
  refine enterW (args := [.slice A0 xs.length c0]) [(fun w => Kd.C k28 w A0 xs.length xs), (fun W => Lib.TabIs Tryd.prog W tabName .u64 Lib.pow10Tab)] (fun p hp W hb => by
    rcases List.mem_cons.1 hp with rfl | hp
    · exact Kd.C_below hr0 hb
    · rw [List.mem_singleton.1 hp]; exact tab_below htab hb) Tryd.func15 rfl rfl ?_
  show Cj Tryd.prog _ _ _ (bodyPost Tryd.prog Tryd.f15 Rr) _ _ _
  have facts_ : ∀ p ∈ [(fun w => Kd.C k28 w A0 xs.length xs), (fun W => Lib.TabIs Tryd.prog W tabName .u64 Lib.pow10Tab)], ∀ W, Below w.heap.size w W → p W := fun p hp W hb => by
    rcases List.mem_cons.1 hp with rfl | hp
    · exact Kd.C_below hr0 hb
    · rw [List.mem_singleton.1 hp]; exact tab_below htab hb
  repeat (first
    | (apply gateO; first
      | refine Jl.yd (Y.mv rfl rfl) rfl rfl rfl ?_
      | refine Jl.yd (Y.asg rfl rfl) rfl rfl rfl ?_
      | refine Jl.yd (Y.ext rfl rfl rfl) rfl rfl rfl ?_
      | refine Jl.yd (Y.pickT rfl rfl rfl) rfl rfl rfl ?_
      | refine Jl.yd (Y.pickF rfl rfl rfl) rfl rfl rfl ?_
      | refine Jl.off rfl rfl rfl ?_
      | refine Jl.yd (Y.cmpF rfl rfl rfl rfl (by omega)) rfl rfl rfl ?_
      | refine Jl.yd (Y.cmpT rfl rfl rfl rfl (by omega)) rfl rfl rfl ?_
      | refine Jl.yd (Y.neqB rfl rfl rfl Tryd.underlying4) rfl rfl rfl ?_
      | refine Jl.yd (Y.cmp rfl rfl rfl rfl) rfl rfl rfl ?_
      | refine Jl.yd (Y.not rfl rfl) rfl rfl rfl ?_
      | refine Jl.yd (Y.arithN rfl rfl rfl rfl (by omega)) rfl rfl rfl ?_
      | refine Jl.yd (Y.arith64 rfl rfl rfl rfl) rfl rfl rfl ?_
      | refine Jl.yd (Y.loadA rfl rfl agg50 (by repeat (first | exact .head _ | refine .tail _ ?_)) (by rfl)) rfl rfl rfl ?_
      | refine Jl.alloc rfl rfl rfl rfl zero50 (fun gb => ?_)
      | refine Jl.storeA rfl rfl rfl rfl rfl sz50 (by repeat (first | exact .z | apply SetAt.s)) (by rfl) (by rfl) ?_
      | refine Jl.yd (Y.lenS Tryd.underlying34 rfl rfl rfl) rfl rfl rfl ?_
      | refine Jl.call1 (v := .bool true) rfl rfl rfl rfl en31 rfl (fun w hW => by with_reducible exact impl_AreMonthRows.calls kg _ _ xs true w (hW.fact (by repeat (first | exact memH | refine memT ?_))) hc0 hg) ?_
      | refine Jl.yd (Y.build0 rfl bld50) rfl rfl rfl ?_
      | refine Jl.splitG rfl rfl (fun h => ?_) (fun h => ?_))
    | (apply gateE; first
      | refine Jl.nil (Ej.go ?_ (fun _ _ h => h))
      | (refine Jl.nil (Ej.back (fun _ _ h => h) (by repeat (first | exact .refl | apply DropTo.tail)) ?_); repeat (first | exact trivial | refine ⟨rfl, ?_⟩)))
    | (apply gateC; first
      | refine Cj.condF rfl rfl (Cj.skip rfl (Ej.go ?_ (fun _ _ h => h)))
      | (refine Cj.condF rfl rfl (Cj.skip rfl (Ej.back (fun _ _ h => h) (by repeat (first | exact .refl | apply DropTo.tail)) ?_)); repeat (first | exact trivial | refine ⟨rfl, ?_⟩))
      | refine Cj.condF rfl rfl ?_
      | refine Cj.condT rfl rfl ?_
      | refine Cj.exit rfl (Ej.go ?_ (fun _ _ h => h))
      | refine Cj.cond rfl rfl (fun h => ?_) (fun h => ?_)
      | refine Cj.skip rfl (Ej.go ?_ (fun _ _ h => h))
      | (refine Cj.skip rfl (Ej.back (fun _ _ h => h) (by repeat (first | exact .refl | apply DropTo.tail)) ?_); repeat (first | exact trivial | refine ⟨rfl, ?_⟩))
      | refine Cj.seq rfl ?_
      | refine Cj.region rfl ?_))
  refine Cj.ws (ι := Unit) (fun _ => True) (fun _ => [.any (Bld 50 5 w.heap.size gb (Lib.strCells ⟨#[]⟩))]) (fun _ => [(fun w => Kd.C k28 w A0 xs.length xs), (fun W => Lib.TabIs Tryd.prog W tabName .u64 Lib.pow10Tab)]) (fun w' hW => ⟨(), trivial, hW.toBld .z⟩) (fun _ _ => ?_)
  refine Cj.block rfl ?_
  refine Cj.loopP (ι := Nat × ByteArray × Int × Int) (fun q => q.1 ≤ xs.length ∧ q.2.1 = tT xs q.1 ∧ q.2.2.1 = cS xs q.1 ∧ q.2.2.2 = pS xs q.1) (fun q => [(4, .pointer (some ⟨gb, 0, none⟩)), (5, .int .i64 q.2.2.1), (6, .int .i64 q.2.2.2), (15, .slice A0 xs.length c0), (16, .int .i64 (xs.length : Int)), (17, .int .i64 (q.1 : Int))])
    (fun q => [.any (Bld 50 5 w.heap.size gb (Lib.strCells q.2.1))]) (fun _ => [(fun w => Kd.C k28 w A0 xs.length xs), (fun W => Lib.TabIs Tryd.prog W tabName .u64 Lib.pow10Tab)]) (fun q => xs.length - q.1) rfl (0, ⟨#[]⟩, 0, 0) ⟨Nat.zero_le _, rfl, rfl, rfl⟩ ⟨rfl, rfl, rfl, rfl, rfl, rfl, trivial⟩ (by repeat (first | exact .nil | refine Pick.cons (by repeat (first | exact .z | apply OutAt.s)) ?_)) (fun p hp => hp) (fun q hi => ?_)
  obtain ⟨i, s, c, p⟩ := q
  dsimp only at hi ⊢
  obtain ⟨hi, hs, hcq, hpq⟩ := hi
  by_cases hlt : i < xs.length
  · obtain ⟨ad0, he0, _⟩ := hr0.2.2 (by omega)
    subst he0
    obtain ⟨x, hx⟩ : ∃ x, xs.getD i z28 = x := ⟨_, rfl⟩
    have hus : ([.int .i64 (xs.getD ((i : Int)).toNat z28).f0, .int .i64 (xs.getD ((i : Int)).toNat z28).f1, .int .i64 (xs.getD ((i : Int)).toNat z28).f2, .int .i64 (xs.getD ((i : Int)).toNat z28).f3, .int .i64 (xs.getD ((i : Int)).toNat z28).f4, .int .i64 (xs.getD ((i : Int)).toNat z28).f5] : List Value) = [.int .i64 x.f0, .int .i64 x.f1, .int .i64 x.f2, .int .i64 x.f3, .int .i64 x.f4, .int .i64 x.f5] := by
      rw [Int.toNat_natCast, hx]
    have hok := hgo i hlt
    unfold nth at hok
    rw [hx] at hok
    obtain ⟨hm, hc, hn, hii, hss⟩ := okM_at hok
    have hsz := lineT_size x.f0 x.f1 x.f2 (x.f4 - x.f5) (by omega) (by omega) (by omega) (by omega)
    have hpf : impl_MonthRow_profit.f x.f0 x.f1 x.f2 x.f3 x.f4 x.f5 = some (x.f4 - x.f5) := by unfold impl_MonthRow_profit.f; rw [w64 (by omega)]
    obtain ⟨g1, g2, g3, g4, g5⟩ := parts_b hgood i (by omega)
    obtain ⟨n1, n2, n3, n4, n5⟩ := parts_b hgood (i + 1) (by omega)
    have eT : tT xs (i + 1) = tT xs i ++ rowT x := by rw [← hx]; rfl
    have eC : cS xs (i + 1) = cS xs i + x.f1 := by rw [← hx]; rfl
    have eP : pS xs (i + 1) = pS xs i + (x.f4 - x.f5) := by rw [← hx]; rfl
    rw [eC] at n2 n3
    rw [eP] at n4 n5
    rw [← hs] at g1
    rw [← hcq] at g2 g3 n2 n3
    rw [← hpq] at g4 g5 n4 n5
    have hWS : ∀ w1, Lib.IsBuilderF 50 5 w.heap.size gb (Lib.strCells s) w1 → w.heap.size ≤ w1.heap.size → Calls Tryd.prog 32 #[.pointer (some ⟨gb, 0, none⟩), .string (lineT x.f0 x.f1 x.f2 (x.f4 - x.f5) ++ ⟨#[10]⟩)] w1 fun e' w' => e' = .returned (.tuple #[.int .i64 ((lineT x.f0 x.f1 x.f2 (x.f4 - x.f5) ++ ⟨#[10]⟩ : ByteArray).size : Int), .nilIface]) ∧ Lib.IsBuilderF 50 5 w.heap.size gb (Lib.strCells (s ++ (lineT x.f0 x.f1 x.f2 (x.f4 - x.f5) ++ ⟨#[10]⟩))) w' ∧ Below w.heap.size w1 w' ∧ Lib.OthersKept 5 (some gb) w1 w' := fun w1 h1 h2 => wstr1_ w.heap.size gb s (lineT x.f0 x.f1 x.f2 (x.f4 - x.f5)) w1 h1 h2 (by omega)
    repeat (first
    | (apply gateO; first
      | refine Jl.yd (Y.mv rfl rfl) rfl rfl rfl ?_
      | refine Jl.yd (Y.asg rfl rfl) rfl rfl rfl ?_
      | refine Jl.yd (Y.ext rfl rfl rfl) rfl rfl rfl ?_
      | refine Jl.yd (Y.pickT rfl rfl rfl) rfl rfl rfl ?_
      | refine Jl.yd (Y.pickF rfl rfl rfl) rfl rfl rfl ?_
      | refine Jl.off rfl rfl rfl ?_
      | refine Jl.yd (Y.cmpF rfl rfl rfl rfl (by omega)) rfl rfl rfl ?_
      | refine Jl.yd (Y.cmpT rfl rfl rfl rfl (by omega)) rfl rfl rfl ?_
      | refine Jl.yd (Y.neqB rfl rfl rfl Tryd.underlying4) rfl rfl rfl ?_
      | refine Jl.yd (Y.cmp rfl rfl rfl rfl) rfl rfl rfl ?_
      | refine Jl.yd (Y.not rfl rfl) rfl rfl rfl ?_
      | refine Jl.yd (Y.arithN rfl rfl rfl rfl (by omega)) rfl rfl rfl ?_
      | refine Jl.yd (Y.arith64 rfl rfl rfl rfl) rfl rfl rfl ?_
      | refine Jl.yd (Y.loadA rfl rfl agg28 (by repeat (first | exact .head _ | refine .tail _ ?_)) (by rfl)) rfl rfl rfl ?_
      | refine Jl.yd (Y.load1 rfl rfl sc3 (by repeat (first | exact .head _ | refine .tail _ ?_)) (by rfl)) rfl rfl rfl ?_
      | refine Jl.yd (Y.fld0 rfl rfl fld28_1) rfl rfl rfl ?_
      | refine Jl.alloc rfl rfl rfl rfl zero28 (fun g => ?_)
      | refine Jl.storeA rfl rfl rfl rfl rfl sz28 (by repeat (first | exact .z | apply SetAt.s)) (by rfl) (by rfl) ?_
      | refine Jl.yd (Y.lenS Tryd.underlying34 rfl rfl rfl) rfl rfl rfl ?_
      | refine Jl.yd (Y.idx rfl rfl rfl el34 (by omega) (by omega)) rfl rfl rfl ?_
      | refine Jl.yd (Y.loadK z28 [.int .i64 x.f0, .int .i64 x.f1, .int .i64 x.f2, .int .i64 x.f3, .int .i64 x.f4, .int .i64 x.f5] rfl rfl agg28 (by repeat (first | exact .head _ | refine .tail _ ?_)) (i : Int) (by omega) (by omega) (by rfl) (fun w cs h => (k28_open h).trans hus) (by rfl)) rfl rfl rfl ?_
      | refine Jl.yd (Y.cat rfl rfl rfl (by (try simp only [ByteArray.size_append', ByteArray.size_mk', List.size_toArray, List.length_cons, List.length_nil]); omega)) rfl rfl rfl ?_
      | refine Jl.call1 (v := .int .i64 (x.f4 - x.f5)) rfl rfl rfl rfl en27 rfl (fun w hW => impl_MonthRow_profit.calls _ _ _ _ _ _ _ w hpf) ?_
      | refine Jl.callB (T := 50) (e := 5) (b := gb) (bs := Lib.strCells s) (bs' := Lib.strCells (s ++ (lineT x.f0 x.f1 x.f2 (x.f4 - x.f5) ++ ⟨#[10]⟩))) (v := .tuple #[.int .i64 ((lineT x.f0 x.f1 x.f2 (x.f4 - x.f5) ++ ⟨#[10]⟩ : ByteArray).size : Int), .nilIface]) rfl rfl rfl rfl en32 rfl (by repeat (first | exact .z | apply OutAt.s)) (by repeat (first | exact trivial | refine ⟨⟨_, _, _, rfl, by decide⟩, ?_⟩)) (fun p hp W hb => facts_ p hp W hb) (fun w1 h1 h2 => by with_reducible exact hWS w1 h1 h2) ?_
      | refine Jl.call1 (v := .tuple #[.string (lineT x.f0 x.f1 x.f2 (x.f4 - x.f5)), .bool true]) rfl rfl rfl rfl en11 rfl (fun w hW => by have := line_ x.f0 x.f1 x.f2 x.f3 x.f4 x.f5 w (hW.at 1 rfl); rw [hok, if_pos rfl] at this; exact this) ?_
      | refine Jl.splitG rfl rfl (fun h => ?_) (fun h => ?_))
    | (apply gateE; first
      | refine Jl.nil (Ej.go ?_ (fun _ _ h => h))
      | (refine Jl.nil (Ej.back (fun _ _ h => h) (by repeat (first | exact .refl | apply DropTo.tail)) ?_); repeat (first | exact trivial | refine ⟨rfl, ?_⟩)))
    | (apply gateC; first
      | refine Cj.block rfl ?_
      | refine Cj.condF rfl rfl (Cj.skip rfl (Ej.go ?_ (fun _ _ h => h)))
      | (refine Cj.condF rfl rfl (Cj.skip rfl (Ej.back (fun _ _ h => h) (by repeat (first | exact .refl | apply DropTo.tail)) ?_)); repeat (first | exact trivial | refine ⟨rfl, ?_⟩))
      | refine Cj.condF rfl rfl ?_
      | refine Cj.condT rfl rfl ?_
      | refine Cj.exit rfl (Ej.go ?_ (fun _ _ h => h))
      | refine Cj.cond rfl rfl (fun h => ?_) (fun h => ?_)
      | refine Cj.skip rfl (Ej.go ?_ (fun _ _ h => h))
      | (refine Cj.skip rfl (Ej.back (fun _ _ h => h) (by repeat (first | exact .refl | apply DropTo.tail)) ?_); repeat (first | exact trivial | refine ⟨rfl, ?_⟩))
      | refine Cj.seq rfl ?_
      | refine Cj.region rfl ?_))
    refine Jl.nil (Ej.cutP (ι := Nat × ByteArray × Int × Int) _ _ _ _ (fun _ _ h => h) (i + 1, s ++ (lineT x.f0 x.f1 x.f2 (x.f4 - x.f5) ++ ⟨#[10]⟩), c + x.f1, p + (x.f4 - x.f5)) ⟨⟨by omega, by rw [eT, hs]; rfl, by rw [eC, hcq], by rw [eP, hpq]⟩, by dsimp only; omega⟩ ⟨rfl, rfl, rfl, rfl, rfl, rfl, trivial⟩ (by repeat (first | exact .nil | refine Pick.cons (by repeat (first | exact .z | apply OutAt.s)) ?_)) (fun p hp => hp))
  · obtain rfl : i = xs.length := by omega
    obtain ⟨g1, g2, g3, g4, g5⟩ := parts_b hgood xs.length (Nat.le_refl _)
    have d1 := dec_size (cS xs xs.length) (by omega) (by omega)
    have d2 := cT_size (pS xs xs.length) (by omega)
    rw [← hs] at g1
    rw [← hcq] at g2 g3 d1
    rw [← hpq] at g4 g5 d2 hcc
    have hST : ∀ w1, Lib.IsBuilderF 50 5 w.heap.size gb (Lib.strCells s) w1 → w.heap.size ≤ w1.heap.size → Calls Tryd.prog 33 #[.pointer (some ⟨gb, 0, none⟩)] w1 fun e' w' => e' = .returned (.string s) ∧ Lib.IsBuilderF 50 5 w.heap.size gb (Lib.strCells s) w' ∧ Below w.heap.size w1 w' ∧ Lib.OthersKept 5 (some gb) w1 w' := fun w1 h1 h2 => str_ w.heap.size gb s w1 h1 h2
    repeat (first
    | (apply gateO; first
      | refine Jl.yd (Y.mv rfl rfl) rfl rfl rfl ?_
      | refine Jl.yd (Y.asg rfl rfl) rfl rfl rfl ?_
      | refine Jl.yd (Y.ext rfl rfl rfl) rfl rfl rfl ?_
      | refine Jl.yd (Y.pickT rfl rfl rfl) rfl rfl rfl ?_
      | refine Jl.yd (Y.pickF rfl rfl rfl) rfl rfl rfl ?_
      | refine Jl.off rfl rfl rfl ?_
      | refine Jl.yd (Y.cmpF rfl rfl rfl rfl (by omega)) rfl rfl rfl ?_
      | refine Jl.yd (Y.cmpT rfl rfl rfl rfl (by omega)) rfl rfl rfl ?_
      | refine Jl.yd (Y.neqB rfl rfl rfl Tryd.underlying4) rfl rfl rfl ?_
      | refine Jl.yd (Y.cmp rfl rfl rfl rfl) rfl rfl rfl ?_
      | refine Jl.yd (Y.not rfl rfl) rfl rfl rfl ?_
      | refine Jl.yd (Y.arithN rfl rfl rfl rfl (by omega)) rfl rfl rfl ?_
      | refine Jl.yd (Y.arith64 rfl rfl rfl rfl) rfl rfl rfl ?_
      | refine Jl.yd (Y.lenS Tryd.underlying34 rfl rfl rfl) rfl rfl rfl ?_
      | refine Jl.yd (Y.cat rfl rfl rfl (by (try simp only [ByteArray.size_append', ByteArray.size_mk', List.size_toArray, List.length_cons, List.length_nil]); omega)) rfl rfl rfl ?_
      | refine Jl.call1 (v := .bool true) rfl rfl rfl rfl en21 rfl (fun w hW => (impl_isCents.calls _ _ w hcc).mono (fun _ _ h => ⟨h.1, bel_ h.2⟩)) ?_
      | refine Jl.callB (T := 50) (e := 5) (b := gb) (bs := Lib.strCells s) (bs' := Lib.strCells s) (v := .string s) rfl rfl rfl rfl en33 rfl (by repeat (first | exact .z | apply OutAt.s)) (by repeat (first | exact trivial | refine ⟨⟨_, _, _, rfl, by decide⟩, ?_⟩)) (fun p hp W hb => facts_ p hp W hb) (fun w1 h1 h2 => by with_reducible exact hST w1 h1 h2) ?_
      | refine Jl.call1 (v := .string (dec c)) rfl rfl rfl rfl en26 rfl (fun w hW => dec_ c (by omega) (by omega) w (hW.at 1 rfl)) ?_
      | refine Jl.call1 (v := .string (cT p)) rfl rfl rfl rfl en22 rfl (fun w hW => cents_ p (by omega) w (hW.at 1 rfl)) ?_
      | refine Jl.splitG rfl rfl (fun h => ?_) (fun h => ?_))
    | (apply gateE; first
      | refine Jl.nil (Ej.go ?_ (fun _ _ h => h))
      | (refine Jl.nil (Ej.back (fun _ _ h => h) (by repeat (first | exact .refl | apply DropTo.tail)) ?_); repeat (first | exact trivial | refine ⟨rfl, ?_⟩)))
    | (apply gateC; first
      | refine Cj.ret rfl (Ej.out2 (P := Tryd.prog) (fn := Tryd.f15) (R := Rr) (fun _ _ h => h) rfl rfl rfl (fun w' hW => ?_))
      | refine Cj.condF rfl rfl (Cj.skip rfl (Ej.go ?_ (fun _ _ h => h)))
      | (refine Cj.condF rfl rfl (Cj.skip rfl (Ej.back (fun _ _ h => h) (by repeat (first | exact .refl | apply DropTo.tail)) ?_)); repeat (first | exact trivial | refine ⟨rfl, ?_⟩))
      | refine Cj.condF rfl rfl ?_
      | refine Cj.condT rfl rfl ?_
      | refine Cj.exit rfl (Ej.go ?_ (fun _ _ h => h))
      | refine Cj.cond rfl rfl (fun h => ?_) (fun h => ?_)
      | refine Cj.skip rfl (Ej.go ?_ (fun _ _ h => h))
      | (refine Cj.skip rfl (Ej.back (fun _ _ h => h) (by repeat (first | exact .refl | apply DropTo.tail)) ?_); repeat (first | exact trivial | refine ⟨rfl, ?_⟩))
      | refine Cj.seq rfl ?_
      | refine Cj.region rfl ?_))
    exact ⟨by rw [hs, hcq, hpq]; rfl, hW.below⟩
set_option maxHeartbeats 4000000 in
theorem iF (A0 : Option Addr) (c0 : Nat) (xs : List S28) (kg : Nat) (hg : impl_AreMonthRows.f kg xs = some true) (hgood : goodM xs = true) (hcc : impl_isCents.f (pS xs xs.length) = some false) (w : World) (htab : Lib.TabIs Tryd.prog w tabName .u64 Lib.pow10Tab) (hr0 : Kd.C k28 w A0 xs.length xs) (hc0 : xs.length ≤ c0) : Calls Tryd.prog 15 #[.slice A0 xs.length c0] w fun e w' => e = .returned (.tuple #[.string ⟨#[]⟩, .bool false]) ∧ Below w.heap.size w w' := by
  let Rr : Ending → World → Prop := fun e w' => e = .returned (.tuple #[.string ⟨#[]⟩, .bool false]) ∧ Below w.heap.size w w'
  obtain ⟨hl12, hgo⟩ := good_at hgood
  refine enterW (args := [.slice A0 xs.length c0]) [(fun w => Kd.C k28 w A0 xs.length xs), (fun W => Lib.TabIs Tryd.prog W tabName .u64 Lib.pow10Tab)] (fun p hp W hb => by
    rcases List.mem_cons.1 hp with rfl | hp
    · exact Kd.C_below hr0 hb
    · rw [List.mem_singleton.1 hp]; exact tab_below htab hb) Tryd.func15 rfl rfl ?_
  show Cj Tryd.prog _ _ _ (bodyPost Tryd.prog Tryd.f15 Rr) _ _ _
  have facts_ : ∀ p ∈ [(fun w => Kd.C k28 w A0 xs.length xs), (fun W => Lib.TabIs Tryd.prog W tabName .u64 Lib.pow10Tab)], ∀ W, Below w.heap.size w W → p W := fun p hp W hb => by
    rcases List.mem_cons.1 hp with rfl | hp
    · exact Kd.C_below hr0 hb
    · rw [List.mem_singleton.1 hp]; exact tab_below htab hb
  repeat (first
    | (apply gateO; first
      | refine Jl.yd (Y.mv rfl rfl) rfl rfl rfl ?_
      | refine Jl.yd (Y.asg rfl rfl) rfl rfl rfl ?_
      | refine Jl.yd (Y.ext rfl rfl rfl) rfl rfl rfl ?_
      | refine Jl.yd (Y.pickT rfl rfl rfl) rfl rfl rfl ?_
      | refine Jl.yd (Y.pickF rfl rfl rfl) rfl rfl rfl ?_
      | refine Jl.off rfl rfl rfl ?_
      | refine Jl.yd (Y.cmpF rfl rfl rfl rfl (by omega)) rfl rfl rfl ?_
      | refine Jl.yd (Y.cmpT rfl rfl rfl rfl (by omega)) rfl rfl rfl ?_
      | refine Jl.yd (Y.neqB rfl rfl rfl Tryd.underlying4) rfl rfl rfl ?_
      | refine Jl.yd (Y.cmp rfl rfl rfl rfl) rfl rfl rfl ?_
      | refine Jl.yd (Y.not rfl rfl) rfl rfl rfl ?_
      | refine Jl.yd (Y.arithN rfl rfl rfl rfl (by omega)) rfl rfl rfl ?_
      | refine Jl.yd (Y.arith64 rfl rfl rfl rfl) rfl rfl rfl ?_
      | refine Jl.yd (Y.loadA rfl rfl agg50 (by repeat (first | exact .head _ | refine .tail _ ?_)) (by rfl)) rfl rfl rfl ?_
      | refine Jl.alloc rfl rfl rfl rfl zero50 (fun gb => ?_)
      | refine Jl.storeA rfl rfl rfl rfl rfl sz50 (by repeat (first | exact .z | apply SetAt.s)) (by rfl) (by rfl) ?_
      | refine Jl.yd (Y.lenS Tryd.underlying34 rfl rfl rfl) rfl rfl rfl ?_
      | refine Jl.call1 (v := .bool true) rfl rfl rfl rfl en31 rfl (fun w hW => by with_reducible exact impl_AreMonthRows.calls kg _ _ xs true w (hW.fact (by repeat (first | exact memH | refine memT ?_))) hc0 hg) ?_
      | refine Jl.yd (Y.build0 rfl bld50) rfl rfl rfl ?_
      | refine Jl.splitG rfl rfl (fun h => ?_) (fun h => ?_))
    | (apply gateE; first
      | refine Jl.nil (Ej.go ?_ (fun _ _ h => h))
      | (refine Jl.nil (Ej.back (fun _ _ h => h) (by repeat (first | exact .refl | apply DropTo.tail)) ?_); repeat (first | exact trivial | refine ⟨rfl, ?_⟩)))
    | (apply gateC; first
      | refine Cj.condF rfl rfl (Cj.skip rfl (Ej.go ?_ (fun _ _ h => h)))
      | (refine Cj.condF rfl rfl (Cj.skip rfl (Ej.back (fun _ _ h => h) (by repeat (first | exact .refl | apply DropTo.tail)) ?_)); repeat (first | exact trivial | refine ⟨rfl, ?_⟩))
      | refine Cj.condF rfl rfl ?_
      | refine Cj.condT rfl rfl ?_
      | refine Cj.exit rfl (Ej.go ?_ (fun _ _ h => h))
      | refine Cj.cond rfl rfl (fun h => ?_) (fun h => ?_)
      | refine Cj.skip rfl (Ej.go ?_ (fun _ _ h => h))
      | (refine Cj.skip rfl (Ej.back (fun _ _ h => h) (by repeat (first | exact .refl | apply DropTo.tail)) ?_); repeat (first | exact trivial | refine ⟨rfl, ?_⟩))
      | refine Cj.seq rfl ?_
      | refine Cj.region rfl ?_))
  refine Cj.ws (ι := Unit) (fun _ => True) (fun _ => [.any (Bld 50 5 w.heap.size gb (Lib.strCells ⟨#[]⟩))]) (fun _ => [(fun w => Kd.C k28 w A0 xs.length xs), (fun W => Lib.TabIs Tryd.prog W tabName .u64 Lib.pow10Tab)]) (fun w' hW => ⟨(), trivial, hW.toBld .z⟩) (fun _ _ => ?_)
  refine Cj.block rfl ?_
  refine Cj.loopP (ι := Nat × ByteArray × Int × Int) (fun q => q.1 ≤ xs.length ∧ q.2.1 = tT xs q.1 ∧ q.2.2.1 = cS xs q.1 ∧ q.2.2.2 = pS xs q.1) (fun q => [(4, .pointer (some ⟨gb, 0, none⟩)), (5, .int .i64 q.2.2.1), (6, .int .i64 q.2.2.2), (15, .slice A0 xs.length c0), (16, .int .i64 (xs.length : Int)), (17, .int .i64 (q.1 : Int))])
    (fun q => [.any (Bld 50 5 w.heap.size gb (Lib.strCells q.2.1))]) (fun _ => [(fun w => Kd.C k28 w A0 xs.length xs), (fun W => Lib.TabIs Tryd.prog W tabName .u64 Lib.pow10Tab)]) (fun q => xs.length - q.1) rfl (0, ⟨#[]⟩, 0, 0) ⟨Nat.zero_le _, rfl, rfl, rfl⟩ ⟨rfl, rfl, rfl, rfl, rfl, rfl, trivial⟩ (by repeat (first | exact .nil | refine Pick.cons (by repeat (first | exact .z | apply OutAt.s)) ?_)) (fun p hp => hp) (fun q hi => ?_)
  obtain ⟨i, s, c, p⟩ := q
  dsimp only at hi ⊢
  obtain ⟨hi, hs, hcq, hpq⟩ := hi
  by_cases hlt : i < xs.length
  · obtain ⟨ad0, he0, _⟩ := hr0.2.2 (by omega)
    subst he0
    obtain ⟨x, hx⟩ : ∃ x, xs.getD i z28 = x := ⟨_, rfl⟩
    have hus : ([.int .i64 (xs.getD ((i : Int)).toNat z28).f0, .int .i64 (xs.getD ((i : Int)).toNat z28).f1, .int .i64 (xs.getD ((i : Int)).toNat z28).f2, .int .i64 (xs.getD ((i : Int)).toNat z28).f3, .int .i64 (xs.getD ((i : Int)).toNat z28).f4, .int .i64 (xs.getD ((i : Int)).toNat z28).f5] : List Value) = [.int .i64 x.f0, .int .i64 x.f1, .int .i64 x.f2, .int .i64 x.f3, .int .i64 x.f4, .int .i64 x.f5] := by
      rw [Int.toNat_natCast, hx]
    have hok := hgo i hlt
    unfold nth at hok
    rw [hx] at hok
    obtain ⟨hm, hc, hn, hii, hss⟩ := okM_at hok
    have hsz := lineT_size x.f0 x.f1 x.f2 (x.f4 - x.f5) (by omega) (by omega) (by omega) (by omega)
    have hpf : impl_MonthRow_profit.f x.f0 x.f1 x.f2 x.f3 x.f4 x.f5 = some (x.f4 - x.f5) := by unfold impl_MonthRow_profit.f; rw [w64 (by omega)]
    obtain ⟨g1, g2, g3, g4, g5⟩ := parts_b hgood i (by omega)
    obtain ⟨n1, n2, n3, n4, n5⟩ := parts_b hgood (i + 1) (by omega)
    have eT : tT xs (i + 1) = tT xs i ++ rowT x := by rw [← hx]; rfl
    have eC : cS xs (i + 1) = cS xs i + x.f1 := by rw [← hx]; rfl
    have eP : pS xs (i + 1) = pS xs i + (x.f4 - x.f5) := by rw [← hx]; rfl
    rw [eC] at n2 n3
    rw [eP] at n4 n5
    rw [← hs] at g1
    rw [← hcq] at g2 g3 n2 n3
    rw [← hpq] at g4 g5 n4 n5
    have hWS : ∀ w1, Lib.IsBuilderF 50 5 w.heap.size gb (Lib.strCells s) w1 → w.heap.size ≤ w1.heap.size → Calls Tryd.prog 32 #[.pointer (some ⟨gb, 0, none⟩), .string (lineT x.f0 x.f1 x.f2 (x.f4 - x.f5) ++ ⟨#[10]⟩)] w1 fun e' w' => e' = .returned (.tuple #[.int .i64 ((lineT x.f0 x.f1 x.f2 (x.f4 - x.f5) ++ ⟨#[10]⟩ : ByteArray).size : Int), .nilIface]) ∧ Lib.IsBuilderF 50 5 w.heap.size gb (Lib.strCells (s ++ (lineT x.f0 x.f1 x.f2 (x.f4 - x.f5) ++ ⟨#[10]⟩))) w' ∧ Below w.heap.size w1 w' ∧ Lib.OthersKept 5 (some gb) w1 w' := fun w1 h1 h2 => wstr1_ w.heap.size gb s (lineT x.f0 x.f1 x.f2 (x.f4 - x.f5)) w1 h1 h2 (by omega)
    repeat (first
    | (apply gateO; first
      | refine Jl.yd (Y.mv rfl rfl) rfl rfl rfl ?_
      | refine Jl.yd (Y.asg rfl rfl) rfl rfl rfl ?_
      | refine Jl.yd (Y.ext rfl rfl rfl) rfl rfl rfl ?_
      | refine Jl.yd (Y.pickT rfl rfl rfl) rfl rfl rfl ?_
      | refine Jl.yd (Y.pickF rfl rfl rfl) rfl rfl rfl ?_
      | refine Jl.off rfl rfl rfl ?_
      | refine Jl.yd (Y.cmpF rfl rfl rfl rfl (by omega)) rfl rfl rfl ?_
      | refine Jl.yd (Y.cmpT rfl rfl rfl rfl (by omega)) rfl rfl rfl ?_
      | refine Jl.yd (Y.neqB rfl rfl rfl Tryd.underlying4) rfl rfl rfl ?_
      | refine Jl.yd (Y.cmp rfl rfl rfl rfl) rfl rfl rfl ?_
      | refine Jl.yd (Y.not rfl rfl) rfl rfl rfl ?_
      | refine Jl.yd (Y.arithN rfl rfl rfl rfl (by omega)) rfl rfl rfl ?_
      | refine Jl.yd (Y.arith64 rfl rfl rfl rfl) rfl rfl rfl ?_
      | refine Jl.yd (Y.loadA rfl rfl agg28 (by repeat (first | exact .head _ | refine .tail _ ?_)) (by rfl)) rfl rfl rfl ?_
      | refine Jl.yd (Y.load1 rfl rfl sc3 (by repeat (first | exact .head _ | refine .tail _ ?_)) (by rfl)) rfl rfl rfl ?_
      | refine Jl.yd (Y.fld0 rfl rfl fld28_1) rfl rfl rfl ?_
      | refine Jl.alloc rfl rfl rfl rfl zero28 (fun g => ?_)
      | refine Jl.storeA rfl rfl rfl rfl rfl sz28 (by repeat (first | exact .z | apply SetAt.s)) (by rfl) (by rfl) ?_
      | refine Jl.yd (Y.lenS Tryd.underlying34 rfl rfl rfl) rfl rfl rfl ?_
      | refine Jl.yd (Y.idx rfl rfl rfl el34 (by omega) (by omega)) rfl rfl rfl ?_
      | refine Jl.yd (Y.loadK z28 [.int .i64 x.f0, .int .i64 x.f1, .int .i64 x.f2, .int .i64 x.f3, .int .i64 x.f4, .int .i64 x.f5] rfl rfl agg28 (by repeat (first | exact .head _ | refine .tail _ ?_)) (i : Int) (by omega) (by omega) (by rfl) (fun w cs h => (k28_open h).trans hus) (by rfl)) rfl rfl rfl ?_
      | refine Jl.yd (Y.cat rfl rfl rfl (by (try simp only [ByteArray.size_append', ByteArray.size_mk', List.size_toArray, List.length_cons, List.length_nil]); omega)) rfl rfl rfl ?_
      | refine Jl.call1 (v := .int .i64 (x.f4 - x.f5)) rfl rfl rfl rfl en27 rfl (fun w hW => impl_MonthRow_profit.calls _ _ _ _ _ _ _ w hpf) ?_
      | refine Jl.callB (T := 50) (e := 5) (b := gb) (bs := Lib.strCells s) (bs' := Lib.strCells (s ++ (lineT x.f0 x.f1 x.f2 (x.f4 - x.f5) ++ ⟨#[10]⟩))) (v := .tuple #[.int .i64 ((lineT x.f0 x.f1 x.f2 (x.f4 - x.f5) ++ ⟨#[10]⟩ : ByteArray).size : Int), .nilIface]) rfl rfl rfl rfl en32 rfl (by repeat (first | exact .z | apply OutAt.s)) (by repeat (first | exact trivial | refine ⟨⟨_, _, _, rfl, by decide⟩, ?_⟩)) (fun p hp W hb => facts_ p hp W hb) (fun w1 h1 h2 => by with_reducible exact hWS w1 h1 h2) ?_
      | refine Jl.call1 (v := .tuple #[.string (lineT x.f0 x.f1 x.f2 (x.f4 - x.f5)), .bool true]) rfl rfl rfl rfl en11 rfl (fun w hW => by have := line_ x.f0 x.f1 x.f2 x.f3 x.f4 x.f5 w (hW.at 1 rfl); rw [hok, if_pos rfl] at this; exact this) ?_
      | refine Jl.splitG rfl rfl (fun h => ?_) (fun h => ?_))
    | (apply gateE; first
      | refine Jl.nil (Ej.go ?_ (fun _ _ h => h))
      | (refine Jl.nil (Ej.back (fun _ _ h => h) (by repeat (first | exact .refl | apply DropTo.tail)) ?_); repeat (first | exact trivial | refine ⟨rfl, ?_⟩)))
    | (apply gateC; first
      | refine Cj.block rfl ?_
      | refine Cj.condF rfl rfl (Cj.skip rfl (Ej.go ?_ (fun _ _ h => h)))
      | (refine Cj.condF rfl rfl (Cj.skip rfl (Ej.back (fun _ _ h => h) (by repeat (first | exact .refl | apply DropTo.tail)) ?_)); repeat (first | exact trivial | refine ⟨rfl, ?_⟩))
      | refine Cj.condF rfl rfl ?_
      | refine Cj.condT rfl rfl ?_
      | refine Cj.exit rfl (Ej.go ?_ (fun _ _ h => h))
      | refine Cj.cond rfl rfl (fun h => ?_) (fun h => ?_)
      | refine Cj.skip rfl (Ej.go ?_ (fun _ _ h => h))
      | (refine Cj.skip rfl (Ej.back (fun _ _ h => h) (by repeat (first | exact .refl | apply DropTo.tail)) ?_); repeat (first | exact trivial | refine ⟨rfl, ?_⟩))
      | refine Cj.seq rfl ?_
      | refine Cj.region rfl ?_))
    refine Jl.nil (Ej.cutP (ι := Nat × ByteArray × Int × Int) _ _ _ _ (fun _ _ h => h) (i + 1, s ++ (lineT x.f0 x.f1 x.f2 (x.f4 - x.f5) ++ ⟨#[10]⟩), c + x.f1, p + (x.f4 - x.f5)) ⟨⟨by omega, by rw [eT, hs]; rfl, by rw [eC, hcq], by rw [eP, hpq]⟩, by dsimp only; omega⟩ ⟨rfl, rfl, rfl, rfl, rfl, rfl, trivial⟩ (by repeat (first | exact .nil | refine Pick.cons (by repeat (first | exact .z | apply OutAt.s)) ?_)) (fun p hp => hp))
  · obtain rfl : i = xs.length := by omega
    obtain ⟨g1, g2, g3, g4, g5⟩ := parts_b hgood xs.length (Nat.le_refl _)
    have d1 := dec_size (cS xs xs.length) (by omega) (by omega)
    have d2 := cT_size (pS xs xs.length) (by omega)
    rw [← hs] at g1
    rw [← hcq] at g2 g3 d1
    rw [← hpq] at g4 g5 d2 hcc
    have hST : ∀ w1, Lib.IsBuilderF 50 5 w.heap.size gb (Lib.strCells s) w1 → w.heap.size ≤ w1.heap.size → Calls Tryd.prog 33 #[.pointer (some ⟨gb, 0, none⟩)] w1 fun e' w' => e' = .returned (.string s) ∧ Lib.IsBuilderF 50 5 w.heap.size gb (Lib.strCells s) w' ∧ Below w.heap.size w1 w' ∧ Lib.OthersKept 5 (some gb) w1 w' := fun w1 h1 h2 => str_ w.heap.size gb s w1 h1 h2
    repeat (first
    | (apply gateO; first
      | refine Jl.yd (Y.mv rfl rfl) rfl rfl rfl ?_
      | refine Jl.yd (Y.asg rfl rfl) rfl rfl rfl ?_
      | refine Jl.yd (Y.ext rfl rfl rfl) rfl rfl rfl ?_
      | refine Jl.yd (Y.pickT rfl rfl rfl) rfl rfl rfl ?_
      | refine Jl.yd (Y.pickF rfl rfl rfl) rfl rfl rfl ?_
      | refine Jl.off rfl rfl rfl ?_
      | refine Jl.yd (Y.cmpF rfl rfl rfl rfl (by omega)) rfl rfl rfl ?_
      | refine Jl.yd (Y.cmpT rfl rfl rfl rfl (by omega)) rfl rfl rfl ?_
      | refine Jl.yd (Y.neqB rfl rfl rfl Tryd.underlying4) rfl rfl rfl ?_
      | refine Jl.yd (Y.cmp rfl rfl rfl rfl) rfl rfl rfl ?_
      | refine Jl.yd (Y.not rfl rfl) rfl rfl rfl ?_
      | refine Jl.yd (Y.arithN rfl rfl rfl rfl (by omega)) rfl rfl rfl ?_
      | refine Jl.yd (Y.arith64 rfl rfl rfl rfl) rfl rfl rfl ?_
      | refine Jl.yd (Y.lenS Tryd.underlying34 rfl rfl rfl) rfl rfl rfl ?_
      | refine Jl.yd (Y.cat rfl rfl rfl (by (try simp only [ByteArray.size_append', ByteArray.size_mk', List.size_toArray, List.length_cons, List.length_nil]); omega)) rfl rfl rfl ?_
      | refine Jl.call1 (v := .bool false) rfl rfl rfl rfl en21 rfl (fun w hW => (impl_isCents.calls _ _ w hcc).mono (fun _ _ h => ⟨h.1, bel_ h.2⟩)) ?_
      | refine Jl.callB (T := 50) (e := 5) (b := gb) (bs := Lib.strCells s) (bs' := Lib.strCells s) (v := .string s) rfl rfl rfl rfl en33 rfl (by repeat (first | exact .z | apply OutAt.s)) (by repeat (first | exact trivial | refine ⟨⟨_, _, _, rfl, by decide⟩, ?_⟩)) (fun p hp W hb => facts_ p hp W hb) (fun w1 h1 h2 => by with_reducible exact hST w1 h1 h2) ?_
      | refine Jl.call1 (v := .string (dec c)) rfl rfl rfl rfl en26 rfl (fun w hW => dec_ c (by omega) (by omega) w (hW.at 1 rfl)) ?_
      | refine Jl.call1 (v := .string (cT p)) rfl rfl rfl rfl en22 rfl (fun w hW => cents_ p (by omega) w (hW.at 1 rfl)) ?_
      | refine Jl.splitG rfl rfl (fun h => ?_) (fun h => ?_))
    | (apply gateE; first
      | refine Jl.nil (Ej.go ?_ (fun _ _ h => h))
      | (refine Jl.nil (Ej.back (fun _ _ h => h) (by repeat (first | exact .refl | apply DropTo.tail)) ?_); repeat (first | exact trivial | refine ⟨rfl, ?_⟩)))
    | (apply gateC; first
      | refine Cj.ret rfl (Ej.out2 (P := Tryd.prog) (fn := Tryd.f15) (R := Rr) (fun _ _ h => h) rfl rfl rfl (fun w' hW => ?_))
      | refine Cj.condF rfl rfl (Cj.skip rfl (Ej.go ?_ (fun _ _ h => h)))
      | (refine Cj.condF rfl rfl (Cj.skip rfl (Ej.back (fun _ _ h => h) (by repeat (first | exact .refl | apply DropTo.tail)) ?_)); repeat (first | exact trivial | refine ⟨rfl, ?_⟩))
      | refine Cj.condF rfl rfl ?_
      | refine Cj.condT rfl rfl ?_
      | refine Cj.exit rfl (Ej.go ?_ (fun _ _ h => h))
      | refine Cj.cond rfl rfl (fun h => ?_) (fun h => ?_)
      | refine Cj.skip rfl (Ej.go ?_ (fun _ _ h => h))
      | (refine Cj.skip rfl (Ej.back (fun _ _ h => h) (by repeat (first | exact .refl | apply DropTo.tail)) ?_); repeat (first | exact trivial | refine ⟨rfl, ?_⟩))
      | refine Cj.seq rfl ?_
      | refine Cj.region rfl ?_))
    exact ⟨rfl, hW.below⟩
set_option maxHeartbeats 2000000 in
theorem lawA (l0 : List S26) (A0 : Option Addr) (c0 : Nat) (w : World) (htab : Lib.TabIs Tryd.prog w tabName .u64 Lib.pow10Tab) (hr0 : Kd.C k26 w A0 l0.length l0) (hc0 : l0.length ≤ c0) (r : Int) (hz : laws_szMonthRowS.f l0 1048576 = some r) (hr : r < 0) : Calls Tryd.prog 5 #[.slice A0 l0.length c0] w fun e w' => e = .returned (.bool true) ∧ Below w.heap.size w w' := by
  let Rr : Ending → World → Prop := fun e w' => e = .returned (.bool true) ∧ Below w.heap.size w w'
  refine enterW (args := [.slice A0 l0.length c0]) [(fun w => Kd.C k26 w A0 l0.length l0), (fun W => Lib.TabIs Tryd.prog W tabName .u64 Lib.pow10Tab)] (fun p hp W hb => by
    rcases List.mem_cons.1 hp with rfl | hp
    · exact Kd.C_below hr0 hb
    · rw [List.mem_singleton.1 hp]; exact tab_below htab hb) Tryd.func5 rfl rfl ?_
  show Cj Tryd.prog _ _ _ (bodyPost Tryd.prog Tryd.f5 Rr) _ _ _
  repeat (first
    | (apply gateO; first
      | refine Jl.yd (Y.mv rfl rfl) rfl rfl rfl ?_
      | refine Jl.yd (Y.asg rfl rfl) rfl rfl rfl ?_
      | refine Jl.yd (Y.ext rfl rfl rfl) rfl rfl rfl ?_
      | refine Jl.yd (Y.pickT rfl rfl rfl) rfl rfl rfl ?_
      | refine Jl.yd (Y.pickF rfl rfl rfl) rfl rfl rfl ?_
      | refine Jl.off rfl rfl rfl ?_
      | refine Jl.yd (Y.cmpF rfl rfl rfl rfl (by omega)) rfl rfl rfl ?_
      | refine Jl.yd (Y.cmpT rfl rfl rfl rfl (by omega)) rfl rfl rfl ?_
      | refine Jl.yd (Y.neqB rfl rfl rfl Tryd.underlying4) rfl rfl rfl ?_
      | refine Jl.yd (Y.cmp rfl rfl rfl rfl) rfl rfl rfl ?_
      | refine Jl.yd (Y.not rfl rfl) rfl rfl rfl ?_
      | refine Jl.yd (Y.arithN rfl rfl rfl rfl (by omega)) rfl rfl rfl ?_
      | refine Jl.yd (Y.arith64 rfl rfl rfl rfl) rfl rfl rfl ?_
      | refine Jl.call1 (v := .int .i64 r) rfl rfl rfl rfl en12 rfl (fun w hW => (laws_szMonthRowS.calls _ _ l0 1048576 r w (hW.at 0 rfl) hc0 hz).mono (fun _ _ h => ⟨h.1, bel_ h.2⟩)) ?_
      | refine Jl.splitG rfl rfl (fun h => ?_) (fun h => ?_))
    | (apply gateE; first
      | refine Jl.nil (Ej.go ?_ (fun _ _ h => h))
      | (refine Jl.nil (Ej.back (fun _ _ h => h) (by repeat (first | exact .refl | apply DropTo.tail)) ?_); repeat (first | exact trivial | refine ⟨rfl, ?_⟩)))
    | (apply gateC; first
      | refine Cj.ret rfl (Ej.out1 (P := Tryd.prog) (fn := Tryd.f5) (R := Rr) (fun _ _ h => h) rfl rfl (fun w' hW => ⟨rfl, hW.below⟩))
      | refine Cj.condF rfl rfl (Cj.skip rfl (Ej.go ?_ (fun _ _ h => h)))
      | (refine Cj.condF rfl rfl (Cj.skip rfl (Ej.back (fun _ _ h => h) (by repeat (first | exact .refl | apply DropTo.tail)) ?_)); repeat (first | exact trivial | refine ⟨rfl, ?_⟩))
      | refine Cj.condF rfl rfl ?_
      | refine Cj.condT rfl rfl ?_
      | refine Cj.exit rfl (Ej.go ?_ (fun _ _ h => h))
      | refine Cj.cond rfl rfl (fun h => ?_) (fun h => ?_)
      | refine Cj.skip rfl (Ej.go ?_ (fun _ _ h => h))
      | (refine Cj.skip rfl (Ej.back (fun _ _ h => h) (by repeat (first | exact .refl | apply DropTo.tail)) ?_); repeat (first | exact trivial | refine ⟨rfl, ?_⟩))
      | refine Cj.seq rfl ?_
      | refine Cj.region rfl ?_))
set_option maxHeartbeats 4000000 in
theorem lawB (l0 : List S26) (A0 : Option Addr) (c0 : Nat) (w : World) (htab : Lib.TabIs Tryd.prog w tabName .u64 Lib.pow10Tab) (hr0 : Kd.C k26 w A0 l0.length l0) (hc0 : l0.length ≤ c0) (r : Int) (hz : laws_szMonthRowS.f l0 1048576 = some r) (hr : ¬ r < 0) (l : List S28) (kt : Nat) (ht : laws_toMonthRowS.f kt l0 = some l) (q : ByteArray) (qb : Bool) (kq : Nat) (hq : laws_eqMonthRowS.f kq l l = some true)
    (hS : ∀ (A : Option Addr) (c : Nat) (w : World), Kd.C k28 w A l.length l → l.length ≤ c → Calls Tryd.prog 13 #[.slice A l.length c] w fun e w' => e = .returned (.tuple #[.string q, .bool qb]) ∧ Below w.heap.size w w')
    (hI : ∀ (A : Option Addr) (c : Nat) (w : World), Lib.TabIs Tryd.prog w tabName .u64 Lib.pow10Tab → Kd.C k28 w A l.length l → l.length ≤ c → Calls Tryd.prog 15 #[.slice A l.length c] w fun e w' => e = .returned (.tuple #[.string q, .bool qb]) ∧ Below w.heap.size w w') : Calls Tryd.prog 5 #[.slice A0 l0.length c0] w fun e w' => e = .returned (.bool true) ∧ Below w.heap.size w w' := by
  let Rr : Ending → World → Prop := fun e w' => e = .returned (.bool true) ∧ Below w.heap.size w w'
  refine enterW (args := [.slice A0 l0.length c0]) [(fun w => Kd.C k26 w A0 l0.length l0), (fun W => Lib.TabIs Tryd.prog W tabName .u64 Lib.pow10Tab)] (fun p hp W hb => by
    rcases List.mem_cons.1 hp with rfl | hp
    · exact Kd.C_below hr0 hb
    · rw [List.mem_singleton.1 hp]; exact tab_below htab hb) Tryd.func5 rfl rfl ?_
  show Cj Tryd.prog _ _ _ (bodyPost Tryd.prog Tryd.f5 Rr) _ _ _
  repeat (first
    | (apply gateO; first
      | refine Jl.yd (Y.mv rfl rfl) rfl rfl rfl ?_
      | refine Jl.yd (Y.asg rfl rfl) rfl rfl rfl ?_
      | refine Jl.yd (Y.ext rfl rfl rfl) rfl rfl rfl ?_
      | refine Jl.yd (Y.pickT rfl rfl rfl) rfl rfl rfl ?_
      | refine Jl.yd (Y.pickF rfl rfl rfl) rfl rfl rfl ?_
      | refine Jl.off rfl rfl rfl ?_
      | refine Jl.yd (Y.cmpF rfl rfl rfl rfl (by omega)) rfl rfl rfl ?_
      | refine Jl.yd (Y.cmpT rfl rfl rfl rfl (by omega)) rfl rfl rfl ?_
      | refine Jl.yd (Y.neqB rfl rfl rfl Tryd.underlying4) rfl rfl rfl ?_
      | refine Jl.yd (Y.cmp rfl rfl rfl rfl) rfl rfl rfl ?_
      | refine Jl.yd (Y.not rfl rfl) rfl rfl rfl ?_
      | refine Jl.yd (Y.arithN rfl rfl rfl rfl (by omega)) rfl rfl rfl ?_
      | refine Jl.yd (Y.arith64 rfl rfl rfl rfl) rfl rfl rfl ?_
      | refine Jl.call1 (v := .int .i64 r) rfl rfl rfl rfl en12 rfl (fun w hW => (laws_szMonthRowS.calls _ _ l0 1048576 r w (hW.at 0 rfl) hc0 hz).mono (fun _ _ h => ⟨h.1, bel_ h.2⟩)) ?_
      | refine Jl.yd (Y.neSF rfl rfl rfl) rfl rfl rfl ?_
      | refine Jl.callR 0 (fun v => v) rfl rfl rfl rfl en14 rfl (fun w hW => by with_reducible exact laws_toMonthRowS.calls kt _ _ l0 l w (hW.at 0 rfl) hc0 ht) (fun A c hl => ?_)
      | refine Jl.call1 (v := .tuple #[.string q, .bool qb]) rfl rfl rfl rfl en13 rfl (fun w hW => by with_reducible exact hS _ _ w (hW.rowC (by repeat (first | exact memH | refine memT ?_))) (hW.rowCap (by repeat (first | exact memH | refine memT ?_))).2) ?_
      | refine Jl.call1 (v := .tuple #[.string q, .bool qb]) rfl rfl rfl rfl en15 rfl (fun w hW => by with_reducible exact hI _ _ w (hW.at 1 rfl) (hW.rowC (by repeat (first | exact memH | refine memT ?_))) (hW.rowCap (by repeat (first | exact memH | refine memT ?_))).2) ?_
      | refine Jl.call1 (v := .bool true) rfl rfl rfl rfl en16 rfl (fun w hW => by with_reducible exact laws_eqMonthRowS.calls kq _ _ l _ _ l true w (hW.rowC (by repeat (first | exact memH | refine memT ?_))) (hW.rowCap (by repeat (first | exact memH | refine memT ?_))).2 (hW.rowC (by repeat (first | exact memH | refine memT ?_))) (hW.rowCap (by repeat (first | exact memH | refine memT ?_))).2 hq) ?_
      | refine Jl.splitG rfl rfl (fun h => ?_) (fun h => ?_))
    | (apply gateE; first
      | refine Jl.nil (Ej.go ?_ (fun _ _ h => h))
      | (refine Jl.nil (Ej.back (fun _ _ h => h) (by repeat (first | exact .refl | apply DropTo.tail)) ?_); repeat (first | exact trivial | refine ⟨rfl, ?_⟩)))
    | (apply gateC; first
      | refine Cj.ret rfl (Ej.out1 (P := Tryd.prog) (fn := Tryd.f5) (R := Rr) (fun _ _ h => h) rfl rfl (fun w' hW => ⟨rfl, hW.below⟩))
      | refine Cj.condF rfl rfl (Cj.skip rfl (Ej.go ?_ (fun _ _ h => h)))
      | (refine Cj.condF rfl rfl (Cj.skip rfl (Ej.back (fun _ _ h => h) (by repeat (first | exact .refl | apply DropTo.tail)) ?_)); repeat (first | exact trivial | refine ⟨rfl, ?_⟩))
      | refine Cj.condF rfl rfl ?_
      | refine Cj.condT rfl rfl ?_
      | refine Cj.exit rfl (Ej.go ?_ (fun _ _ h => h))
      | refine Cj.cond rfl rfl (fun h => ?_) (fun h => ?_)
      | refine Cj.skip rfl (Ej.go ?_ (fun _ _ h => h))
      | (refine Cj.skip rfl (Ej.back (fun _ _ h => h) (by repeat (first | exact .refl | apply DropTo.tail)) ?_); repeat (first | exact trivial | refine ⟨rfl, ?_⟩))
      | refine Cj.seq rfl ?_
      | refine Cj.region rfl ?_))
end Rep
end Go.Proofs.YthmgiagecgkmiaaDoor.WK
