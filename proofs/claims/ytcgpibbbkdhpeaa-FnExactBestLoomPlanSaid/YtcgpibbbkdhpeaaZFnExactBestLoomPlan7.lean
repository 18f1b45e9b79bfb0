/- The program's BestLoomPlan returns what the reference's returns, for all arguments: no condition. -/
import Derived.KernelRfl
import Derived.Deep.Slices
import Derived.ChangeArms
import Derived.DataReads
import Derived.Carry
import Derived.Test.YtcgpibbbkdhpeaaRows
import Derived.WalkKit
import Derived.ProofKit
import Derived.OpenShut
import Derived.ShutString
import Derived.ChangeOld
import Derived.Below
import Derived.SizedLaws
import Derived.ChangeVars
import Derived.Test.YtcgpibbbkdhpeaaZFnExactBestLoomPlan6
namespace Go.Proofs.Ytcgpibbbkdhpeaa.WK
open Go Go.RowKit Go.Proofs.Ytcgpibbbkdhpeaa.Q Go.Proofs.Ytcgpibbbkdhpeaa.M Go.Proofs.YtcgpibbbkdhpeaaW.PrintWords Go.Proofs.YtcgpibbbkdhpeaaW.Pl Go.Proofs.YtcgpibbbkdhpeaaW.SL
set_option linter.unusedSimpArgs false
set_option linter.unusedVariables false
set_option maxRecDepth 100000
namespace BP
theorem agg51 : AggT Try.prog 51 5 := ⟨by kernel_rfl⟩
theorem sz51 : SzT Try.prog 51 5 := ⟨by kernel_rfl⟩
theorem sc3 : ScT Try.prog 3 := ⟨by kernel_rfl⟩
theorem sc25 : ScT Try.prog 25 := ⟨by kernel_rfl⟩
theorem sc29 : ScT Try.prog 29 := ⟨by kernel_rfl⟩
theorem fld51_1 : FldT Try.prog 51 1 1 := ⟨by kernel_rfl⟩
theorem zero51 : ZeroT Try.prog 51 [.int .i64 0, .int .i64 0, .int .i64 0, .int .i64 0, .int .i64 0] := ⟨by kernel_rfl⟩
theorem zero29 : ZeroT Try.prog 29 [.slice none 0 0] := ⟨by kernel_rfl⟩
theorem zero3 : ZeroT Try.prog 3 [.int .i64 0] := ⟨by kernel_rfl⟩
theorem el25 : ElT Try.prog 25 51 5 := ⟨by kernel_rfl⟩
theorem el29 : ElT Try.prog 29 3 1 := ⟨by kernel_rfl⟩
theorem el80 : ElT Try.prog 80 29 1 := ⟨by kernel_rfl⟩
theorem en91 : Ent Try.prog 91 := ⟨enters_of Try.func91 (by kernel_rfl) rfl⟩
theorem en63 : Ent Try.prog 63 := ⟨enters_of Try.func63 (by kernel_rfl) rfl⟩
theorem en65 : Ent Try.prog 65 := ⟨enters_of Try.func65 (by kernel_rfl) rfl⟩
theorem en67 : Ent Try.prog 67 := ⟨enters_of Try.func67 (by kernel_rfl) rfl⟩
theorem en77 : Ent Try.prog 77 := ⟨enters_of Try.func77 (by kernel_rfl) rfl⟩
theorem en78 : Ent Try.prog 78 := ⟨enters_of Try.func78 (by kernel_rfl) rfl⟩
theorem en76 : Ent Try.prog 76 := ⟨enters_of Try.func76 (by kernel_rfl) rfl⟩
theorem en75 : Ent Try.prog 75 := ⟨enters_of Try.func75 (by kernel_rfl) rfl⟩
theorem en74 : Ent Try.prog 74 := ⟨enters_of Try.func74 (by kernel_rfl) rfl⟩
theorem en17 : Ent Try.prog 17 := ⟨enters_of Try.func17 (by kernel_rfl) rfl⟩
theorem en56 : Ent Try.prog 56 := ⟨enters_of Try.func56 (by kernel_rfl) rfl⟩
theorem ap29 : ApT Try.prog 29 3 1 8 := apT_of (z := .int .i64 0) Try.underlying29 (by kernel_rfl) rfl (by decide)
theorem ap80 : ApT Try.prog 80 29 1 24 := apT_of (z := .slice none 0 0) Try.underlying80 (by kernel_rfl) rfl (by decide)
theorem clone_f (p : List Int) (h : p.length ≤ 1048576) : slices_Clone_int_int.f p = some p := by
  unfold slices_Clone_int_int.f
  rw [Option.bind_some, if_pos (by simp; omega), List.nil_append]
theorem mixed : Try.prog.follows .mixedOrders = true := by kernel_rfl
namespace Pl
set_option maxHeartbeats 4000000 in
theorem calls (A0 : Option Addr) (c0 : Nat) (l : List S51) (A1 : Option Addr) (c1 : Nat) (m : List Int) (w : World) (hr0 : Kd.C k51 w A0 l.length l) (hc0 : l.length ≤ c0) (hr1 : Kd.C (Kd.int .i64) w A1 m.length m) (hc1 : m.length ≤ c1) (hl6 : l.length ≤ 6) (hm3 : m.length ≤ 3) :
    Calls Try.prog 74 #[.slice A0 l.length c0, .slice A1 m.length c1] w fun e w' => ∃ A c vs, e = .returned (.slice A (vs : List Value).length c) ∧ GV 29 3 w.heap.size (.slice A vs.length c) vs (plansTo l m l.length) w' ∧ Below w.heap.size w w' := by
  let Rr : Ending → World → Prop := fun e w' => ∃ A c vs, e = .returned (.slice A (vs : List Value).length c) ∧ GV 29 3 w.heap.size (.slice A vs.length c) vs (plansTo l m l.length) w' ∧ Below w.heap.size w w'
  refine enterW (args := [.slice A0 l.length c0, .slice A1 m.length c1]) [(fun W => Kd.C k51 W A0 l.length l), (fun W => Kd.C (Kd.int .i64) W A1 m.length m)] (fun p hp W hb => by
    rcases List.mem_cons.1 hp with rfl | hp
    · exact Kd.C_below hr0 hb
    · rw [List.mem_singleton.1 hp]; exact Kd.C_below hr1 hb) Try.func74 rfl rfl ?_
  show Cj Try.prog _ _ _ (bodyPost Try.prog Try.f74 Rr) _ _ _
  repeat (first
    | (apply gateO; first
      | refine Jl.yd (Y.mv rfl rfl) rfl rfl rfl ?_
      | refine Jl.yd (Y.asg rfl rfl) rfl rfl rfl ?_
      | refine Jl.yd (Y.ext rfl rfl rfl) rfl rfl rfl ?_
      | refine Jl.yd (Y.pickT rfl rfl rfl) rfl rfl rfl ?_
      | refine Jl.yd (Y.pickF rfl rfl rfl) rfl rfl rfl ?_
      | refine Jl.off rfl rfl rfl ?_
      | refine Jl.yd (Y.cmpF rfl rfl rfl rfl (by omega)) rfl rfl rfl ?_
      | refine Jl.yd (Y.cmpT rfl rfl rfl rfl (by omega)) rfl rfl rfl ?_
      | refine Jl.yd (Y.neqB rfl rfl rfl Try.underlying4) rfl rfl rfl ?_
      | refine Jl.yd (Y.cmp rfl rfl rfl rfl) rfl rfl rfl ?_
      | refine Jl.yd (Y.not rfl rfl) rfl rfl rfl ?_
      | refine Jl.yd (Y.arithN rfl rfl rfl rfl (by omega)) rfl rfl rfl ?_
      | refine Jl.yd (Y.arith64 rfl rfl rfl rfl) rfl rfl rfl ?_
      | refine Jl.yd (Y.lenS Try.underlying25 rfl rfl rfl) rfl rfl rfl ?_
      | refine Jl.yd (Y.lenS Try.underlying29 rfl rfl rfl) rfl rfl rfl ?_
      | refine Jl.yd (Y.lenS Try.underlying80 rfl rfl rfl) rfl rfl rfl ?_
      | refine Jl.lit0 (Kd.int .i64) rfl rfl rfl rfl el29 (fun g0 => ?_)
      | refine Jl.lit1 rfl rfl rfl rfl rfl el80 zero29 rfl (fun g1 => ?_)
      | refine Jl.splitG rfl rfl (fun h => ?_) (fun h => ?_))
    | (apply gateE; first
      | refine Jl.nil (Ej.go ?_ (fun _ _ h => h))
      | (refine Jl.nil (Ej.back (fun _ _ h => h) (by repeat (first | exact .refl | apply DropTo.tail)) ?_); repeat (first | exact trivial | refine ⟨rfl, ?_⟩)))
    | (apply gateC; first
      | refine Cj.block rfl ?_
      | refine Cj.condF rfl rfl (Cj.skip rfl (Ej.go ?_ (fun _ _ h => h)))
      | (refine Cj.condF rfl rfl (Cj.skip rfl (Ej.back (fun _ _ h => h) (by repeat (first | exact .refl | apply DropTo.tail)) ?_)); repeat (first | exact trivial | refine ⟨rfl, ?_⟩))
      | refine Cj.condF rfl rfl ?_
      | refine Cj.condT rfl rfl ?_
      | refine Cj.exit rfl (Ej.go ?_ (fun _ _ h => h))
      | refine Cj.cond rfl rfl (fun h => ?_) (fun h => ?_)
      | refine Cj.skip rfl (Ej.go ?_ (fun _ _ h => h))
      | (refine Cj.skip rfl (Ej.back (fun _ _ h => h) (by repeat (first | exact .refl | apply DropTo.tail)) ?_); repeat (first | exact trivial | refine ⟨rfl, ?_⟩))
      | refine Cj.seq rfl ?_
      | refine Cj.region rfl ?_))
  refine Cj.ws (ι := Unit) (fun _ => True) (fun _ => []) (fun _ => [GV 29 3 w.heap.size (.slice (some ⟨g1, 0, none⟩) ([.slice (some ⟨g0, 0, none⟩) ([] : List Int).length 0] : List Value).length 1) [.slice (some ⟨g0, 0, none⟩) ([] : List Int).length 0] (plansTo l m 0), (fun W => Kd.C k51 W A0 l.length l), (fun W => Kd.C (Kd.int .i64) W A1 m.length m)]) (fun w' hW => ⟨(), trivial, hW.oneV rfl⟩) (fun _ _ => ?_)
  refine Cj.loopP (ι := Nat × Option Addr × Nat × List Value) (fun q => q.1 ≤ l.length ∧ q.2.2.2.length = (plansTo l m q.1).length) (fun q => [(0, .slice A0 l.length c0), (1, .slice A1 m.length c1), (5, .slice q.2.1 (q.2.2.2 : List Value).length q.2.2.1), (15, .slice A0 l.length c0), (16, .int .i64 (l.length : Int)), (17, .int .i64 (q.1 : Int))]) (fun _ => []) (fun q => [GV 29 3 w.heap.size (.slice q.2.1 (q.2.2.2 : List Value).length q.2.2.1) q.2.2.2 (plansTo l m q.1), (fun W => Kd.C k51 W A0 l.length l), (fun W => Kd.C (Kd.int .i64) W A1 m.length m)]) (fun q => l.length - q.1) rfl (0, some ⟨g1, 0, none⟩, 1, [.slice (some ⟨g0, 0, none⟩) ([] : List Int).length 0]) ⟨Nat.zero_le _, rfl⟩ ⟨rfl, rfl, rfl, rfl, rfl, rfl, trivial⟩ (by repeat (first | exact .nil | refine Pick.cons (by repeat (first | exact .z | apply OutAt.s)) ?_)) (fun p hp => hp) (fun q hi => ?_)
  obtain ⟨i, A, c, vs⟩ := q
  dsimp only at hi ⊢
  obtain ⟨hi, hvl⟩ := hi
  have hpl := plansTo_len l m hm3 i
  have h36 : 3 ^ i ≤ 3 ^ 6 := Nat.pow_le_pow_right (by omega) (by omega)
  have h36' : vs.length ≤ 729 := by
    have : 3 ^ 6 = 729 := by decide
    omega
  by_cases hlt : i < l.length
  · obtain ⟨ad0, rfl⟩ : ∃ ad, A0 = some ad := by
      obtain ⟨ad, e, _⟩ := hr0.2.2 (by omega)
      exact ⟨ad, e⟩
    obtain ⟨x, hx⟩ : ∃ x, nth l i z51 = x := ⟨_, rfl⟩
    have hus : ([.int .i64 (l.getD ((i : Int)).toNat z51).f0, .int .i64 (l.getD ((i : Int)).toNat z51).f1, .int .i64 (l.getD ((i : Int)).toNat z51).f2, .int .i64 (l.getD ((i : Int)).toNat z51).f3, .int .i64 (l.getD ((i : Int)).toNat z51).f4] : List Value) = [.int .i64 x.f0, .int .i64 x.f1, .int .i64 x.f2, .int .i64 x.f3, .int .i64 x.f4] := by
      have hx2 : l.getD i z51 = x := hx
      rw [Int.toNat_natCast, hx2]
    repeat (first
    | (apply gateO; first
      | refine Jl.yd (Y.mv rfl rfl) rfl rfl rfl ?_
      | refine Jl.yd (Y.asg rfl rfl) rfl rfl rfl ?_
      | refine Jl.yd (Y.ext rfl rfl rfl) rfl rfl rfl ?_
      | refine Jl.yd (Y.pickT rfl rfl rfl) rfl rfl rfl ?_
      | refine Jl.yd (Y.pickF rfl rfl rfl) rfl rfl rfl ?_
      | refine Jl.off rfl rfl rfl ?_
      | refine Jl.yd (Y.cmpF rfl rfl rfl rfl (by omega)) rfl rfl rfl ?_
      | refine Jl.yd (Y.cmpT rfl rfl rfl rfl (by omega)) rfl rfl rfl ?_
      | refine Jl.yd (Y.neqB rfl rfl rfl Try.underlying4) rfl rfl rfl ?_
      | refine Jl.yd (Y.cmp rfl rfl rfl rfl) rfl rfl rfl ?_
      | refine Jl.yd (Y.not rfl rfl) rfl rfl rfl ?_
      | refine Jl.yd (Y.arithN rfl rfl rfl rfl (by omega)) rfl rfl rfl ?_
      | refine Jl.yd (Y.arith64 rfl rfl rfl rfl) rfl rfl rfl ?_
      | refine Jl.yd (Y.loadA rfl rfl agg51 (by repeat (first | exact .head _ | refine .tail _ ?_)) (by rfl)) rfl rfl rfl ?_
      | refine Jl.storeA rfl rfl rfl rfl rfl sz51 (by repeat (first | exact .z | apply SetAt.s)) (by rfl) (by rfl) ?_
      | refine Jl.yd (Y.lenS Try.underlying25 rfl rfl rfl) rfl rfl rfl ?_
      | refine Jl.yd (Y.lenS Try.underlying29 rfl rfl rfl) rfl rfl rfl ?_
      | refine Jl.yd (Y.lenS Try.underlying80 rfl rfl rfl) rfl rfl rfl ?_
      | refine Jl.yd (Y.idx rfl rfl rfl el25 (by omega) (by omega)) rfl rfl rfl ?_
      | refine Jl.yd (Y.loadK z51 [.int .i64 x.f0, .int .i64 x.f1, .int .i64 x.f2, .int .i64 x.f3, .int .i64 x.f4] rfl rfl agg51 (by repeat (first | exact .head _ | refine .tail _ ?_)) (i : Int) (by omega) (by omega) (by rfl) (fun w cs h => (k51_open h).trans hus) (by rfl)) rfl rfl rfl ?_
      | refine Jl.lit0V rfl rfl rfl rfl el80 3 w.heap.size (fun g2 => ?_)
      | refine Jl.alloc rfl rfl rfl rfl zero51 (fun g7 => ?_)
      | refine Jl.splitG rfl rfl (fun h => ?_) (fun h => ?_))
    | (apply gateE; first
      | refine Jl.nil (Ej.go ?_ (fun _ _ h => h))
      | (refine Jl.nil (Ej.back (fun _ _ h => h) (by repeat (first | exact .refl | apply DropTo.tail)) ?_); repeat (first | exact trivial | refine ⟨rfl, ?_⟩)))
    | (apply gateC; first
      | refine Cj.block rfl ?_
      | refine Cj.condF rfl rfl (Cj.skip rfl (Ej.go ?_ (fun _ _ h => h)))
      | (refine Cj.condF rfl rfl (Cj.skip rfl (Ej.back (fun _ _ h => h) (by repeat (first | exact .refl | apply DropTo.tail)) ?_)); repeat (first | exact trivial | refine ⟨rfl, ?_⟩))
      | refine Cj.condF rfl rfl ?_
      | refine Cj.condT rfl rfl ?_
      | refine Cj.exit rfl (Ej.go ?_ (fun _ _ h => h))
      | refine Cj.cond rfl rfl (fun h => ?_) (fun h => ?_)
      | refine Cj.skip rfl (Ej.go ?_ (fun _ _ h => h))
      | (refine Cj.skip rfl (Ej.back (fun _ _ h => h) (by repeat (first | exact .refl | apply DropTo.tail)) ?_); repeat (first | exact trivial | refine ⟨rfl, ?_⟩))
      | refine Cj.seq rfl ?_
      | refine Cj.region rfl ?_))
    refine Cj.loopP (ι := Nat × Option Addr × Nat × List Value) (fun q => q.1 ≤ vs.length ∧ q.2.2.2.length = (midN m x.f1 (plansTo l m i) q.1).length) (fun q => [(0, .slice (some ad0) l.length c0), (1, .slice A1 m.length c1), (5, .slice A vs.length c), (7, .pointer (some ⟨g7, 0, none⟩)), (8, .slice q.2.1 q.2.2.2.length q.2.2.1), (15, .slice (some ad0) l.length c0), (16, .int .i64 (l.length : Int)), (17, .int .i64 (i : Int)), (22, .slice A vs.length c), (23, .int .i64 (vs.length : Int)), (24, .int .i64 (q.1 : Int))]) (fun q => [.row K1 29 0 (.slice q.2.1 (q.2.2.2 : List Value).length q.2.2.1) (q.2.2.2.map cell1), .box g7 51 [.int .i64 x.f0, .int .i64 x.f1, .int .i64 x.f2, .int .i64 x.f3, .int .i64 x.f4]]) (fun q => [EV 3 w.heap.size q.2.2.2 (midN m x.f1 (plansTo l m i) q.1), GV 29 3 w.heap.size (.slice A (vs : List Value).length c) vs (plansTo l m i), (fun W => Kd.C k51 W (some ad0) l.length l), (fun W => Kd.C (Kd.int .i64) W A1 m.length m)]) (fun q => vs.length - q.1) rfl (0, some ⟨g2, 0, none⟩, 0, []) ⟨Nat.zero_le _, rfl⟩ ⟨rfl, rfl, rfl, rfl, rfl, rfl, rfl, rfl, rfl, rfl, rfl, trivial⟩ (by repeat (first | exact .nil | refine Pick.cons (by repeat (first | exact .z | apply OutAt.s)) ?_)) (fun p hp => hp) (fun q hj => ?_)
    obtain ⟨j, A2, c2, vs2⟩ := q
    dsimp only at hj ⊢
    obtain ⟨hj, hvl2⟩ := hj
    by_cases hjl : j < vs.length
    · obtain ⟨p, hp⟩ : ∃ p, (plansTo l m i)[j]? = some p := ⟨_, List.getElem?_eq_getElem (by omega)⟩
      obtain ⟨u, hu0⟩ : ∃ u, vs[j]? = some u := ⟨_, List.getElem?_eq_getElem hjl⟩
      have hpn : nth (plansTo l m i) j [] = p := by unfold nth; rw [List.getD_eq_getElem?_getD, hp]; rfl
      have hu : vs[((j : Int)).toNat]? = some u := by rw [Int.toNat_natCast]; exact hu0
      have hplen : p.length = i := (plansTo_sound l m i p (List.mem_of_getElem? hp)).1
      refine Cj.ws (ι := Option Addr × Nat) (fun q => (u = .slice q.1 p.length q.2 ∧ p.length ≤ q.2) ∧ ∃ ad, A = some ad) (fun _ => [.row K1 29 0 (.slice A2 (vs2 : List Value).length c2) (vs2.map cell1), .box g7 51 [.int .i64 x.f0, .int .i64 x.f1, .int .i64 x.f2, .int .i64 x.f3, .int .i64 x.f4]]) (fun q => [(fun W => (Kd.int .i64).C W q.1 p.length p), EV 3 w.heap.size vs2 (midN m x.f1 (plansTo l m i) j), GV 29 3 w.heap.size (.slice A (vs : List Value).length c) vs (plansTo l m i), (fun W => Kd.C k51 W (some ad0) l.length l), (fun W => Kd.C (Kd.int .i64) W A1 m.length m)]) (fun w' hW => by
        have hG : GV 29 3 w.heap.size (.slice A vs.length c) vs (plansTo l m i) w' := hW.fact (by repeat (first | exact memH | refine memT ?_))
        obtain ⟨ad, e, _⟩ := hG.reads.2.2.2.2 (by simpa using by omega)
        obtain ⟨Ap, cp, hup, hW2⟩ := (hW.elsV (eS := 29) (v := .slice A vs.length c) (by repeat (first | exact memH | refine memT ?_))).elV (List.mem_cons_self) hp hu0
        refine ⟨(Ap, cp), ⟨hup, ad, e⟩, hW2.sub (fun q hq => ?_)⟩
        rcases List.mem_cons.1 hq with rfl | hq
        · exact List.mem_cons_self
        · exact List.mem_cons_of_mem _ (List.mem_cons_of_mem _ hq)) (fun q hq => ?_)
      obtain ⟨Ap, cp⟩ := q
      obtain ⟨⟨rfl, hcp⟩, ad, rfl⟩ := hq
      dsimp only at hcp ⊢
      repeat (first
    | (apply gateO; first
      | refine Jl.yd (Y.mv rfl rfl) rfl rfl rfl ?_
      | refine Jl.yd (Y.asg rfl rfl) rfl rfl rfl ?_
      | refine Jl.yd (Y.ext rfl rfl rfl) rfl rfl rfl ?_
      | refine Jl.yd (Y.pickT rfl rfl rfl) rfl rfl rfl ?_
      | refine Jl.yd (Y.pickF rfl rfl rfl) rfl rfl rfl ?_
      | refine Jl.off rfl rfl rfl ?_
      | refine Jl.yd (Y.cmpF rfl rfl rfl rfl (by omega)) rfl rfl rfl ?_
      | refine Jl.yd (Y.cmpT rfl rfl rfl rfl (by omega)) rfl rfl rfl ?_
      | refine Jl.yd (Y.neqB rfl rfl rfl Try.underlying4) rfl rfl rfl ?_
      | refine Jl.yd (Y.cmp rfl rfl rfl rfl) rfl rfl rfl ?_
      | refine Jl.yd (Y.not rfl rfl) rfl rfl rfl ?_
      | refine Jl.yd (Y.arithN rfl rfl rfl rfl (by omega)) rfl rfl rfl ?_
      | refine Jl.yd (Y.arith64 rfl rfl rfl rfl) rfl rfl rfl ?_
      | refine Jl.yd (Y.lenS Try.underlying25 rfl rfl rfl) rfl rfl rfl ?_
      | refine Jl.yd (Y.lenS Try.underlying29 rfl rfl rfl) rfl rfl rfl ?_
      | refine Jl.yd (Y.lenS Try.underlying80 rfl rfl rfl) rfl rfl rfl ?_
      | refine Jl.yd (Y.idx rfl rfl rfl el80 (by omega) (by omega)) rfl rfl rfl ?_
      | refine Jl.yd (Y.loadV rfl rfl sc29 (by repeat (first | exact .head _ | refine .tail _ ?_)) (j : Int) (by omega) (by omega) rfl hu) rfl rfl rfl ?_
      | refine Jl.splitG rfl rfl (fun h => ?_) (fun h => ?_))
    | (apply gateE; first
      | refine Jl.nil (Ej.go ?_ (fun _ _ h => h))
      | (refine Jl.nil (Ej.back (fun _ _ h => h) (by repeat (first | exact .refl | apply DropTo.tail)) ?_); repeat (first | exact trivial | refine ⟨rfl, ?_⟩)))
    | (apply gateC; first
      | refine Cj.block rfl ?_
      | refine Cj.condF rfl rfl (Cj.skip rfl (Ej.go ?_ (fun _ _ h => h)))
      | (refine Cj.condF rfl rfl (Cj.skip rfl (Ej.back (fun _ _ h => h) (by repeat (first | exact .refl | apply DropTo.tail)) ?_)); repeat (first | exact trivial | refine ⟨rfl, ?_⟩))
      | refine Cj.condF rfl rfl ?_
      | refine Cj.condT rfl rfl ?_
      | refine Cj.exit rfl (Ej.go ?_ (fun _ _ h => h))
      | refine Cj.cond rfl rfl (fun h => ?_) (fun h => ?_)
      | refine Cj.skip rfl (Ej.go ?_ (fun _ _ h => h))
      | (refine Cj.skip rfl (Ej.back (fun _ _ h => h) (by repeat (first | exact .refl | apply DropTo.tail)) ?_); repeat (first | exact trivial | refine ⟨rfl, ?_⟩))
      | refine Cj.seq rfl ?_
      | refine Cj.region rfl ?_))
      refine Cj.loopP (ι := Nat × Option Addr × Nat × List Value) (fun q => q.1 ≤ m.length ∧ q.2.2.2.length = (midN m x.f1 (plansTo l m i) j ++ extN m x.f1 p q.1).length) (fun q => [(0, .slice (some ad0) l.length c0), (1, .slice A1 m.length c1), (5, .slice (some ad) vs.length c), (7, .pointer (some ⟨g7, 0, none⟩)), (8, .slice q.2.1 q.2.2.2.length q.2.2.1), (15, .slice (some ad0) l.length c0), (16, .int .i64 (l.length : Int)), (17, .int .i64 (i : Int)), (22, .slice (some ad) vs.length c), (23, .int .i64 (vs.length : Int)), (24, .int .i64 (j : Int)), (10, .slice Ap p.length cp), (28, .slice A1 m.length c1), (29, .int .i64 (m.length : Int)), (30, .int .i64 (q.1 : Int))]) (fun q => [.row K1 29 0 (.slice q.2.1 (q.2.2.2 : List Value).length q.2.2.1) (q.2.2.2.map cell1), .box g7 51 [.int .i64 x.f0, .int .i64 x.f1, .int .i64 x.f2, .int .i64 x.f3, .int .i64 x.f4]]) (fun q => [EV 3 w.heap.size q.2.2.2 (midN m x.f1 (plansTo l m i) j ++ extN m x.f1 p q.1), (fun W => (Kd.int .i64).C W Ap p.length p), GV 29 3 w.heap.size (.slice (some ad) (vs : List Value).length c) vs (plansTo l m i), (fun W => Kd.C k51 W (some ad0) l.length l), (fun W => Kd.C (Kd.int .i64) W A1 m.length m)]) (fun q => m.length - q.1) rfl (0, A2, c2, vs2) ⟨Nat.zero_le _, by simpa [extN] using hvl2⟩ ⟨rfl, rfl, rfl, rfl, rfl, rfl, rfl, rfl, rfl, rfl, rfl, rfl, rfl, rfl, rfl, trivial⟩ (by repeat (first | exact .nil | refine Pick.cons (by repeat (first | exact .z | apply OutAt.s)) ?_)) (fun q hq => by
        simp only [List.mem_cons, extN, List.append_nil] at hq ⊢
        rcases hq with rfl | rfl | hq
        · exact .inr (.inl rfl)
        · exact .inl rfl
        · exact .inr (.inr hq)) (fun q hk => ?_)
      obtain ⟨k, A3', c3', vs3⟩ := q
      dsimp only at hk ⊢
      obtain ⟨hk, hvl3⟩ := hk
      by_cases hkl : k < m.length
      · obtain ⟨ad1, rfl⟩ : ∃ ad, A1 = some ad := by
          obtain ⟨ad, e, _⟩ := hr1.2.2 (by omega)
          exact ⟨ad, e⟩
        have hb1 := midN_len m x.f1 (plansTo l m i) j
        have hb2 := extN_len m x.f1 p k
        have hb3 : j * m.length ≤ 729 * 3 := Nat.mul_le_mul (by omega) hm3
        rw [List.length_append] at hvl3
        have hnk : m.getD ((k : Int)).toNat 0 = nth m k 0 := by rw [Int.toNat_natCast]; rfl
        by_cases hw : m.getD ((k : Int)).toNat 0 ≥ x.f1
        · have hE : midN m x.f1 (plansTo l m i) j ++ extN m x.f1 p (k + 1) = (midN m x.f1 (plansTo l m i) j ++ extN m x.f1 p k) ++ [p ++ [(k : Int)]] := by
            rw [extN, if_pos (by rw [← hnk]; exact hw), List.append_assoc]
          repeat (first
    | (apply gateO; first
      | refine Jl.yd (Y.mv rfl rfl) rfl rfl rfl ?_
      | refine Jl.yd (Y.asg rfl rfl) rfl rfl rfl ?_
      | refine Jl.yd (Y.ext rfl rfl rfl) rfl rfl rfl ?_
      | refine Jl.yd (Y.pickT rfl rfl rfl) rfl rfl rfl ?_
      | refine Jl.yd (Y.pickF rfl rfl rfl) rfl rfl rfl ?_
      | refine Jl.off rfl rfl rfl ?_
      | refine Jl.yd (Y.cmpF rfl rfl rfl rfl (by omega)) rfl rfl rfl ?_
      | refine Jl.yd (Y.cmpT rfl rfl rfl rfl (by omega)) rfl rfl rfl ?_
      | refine Jl.yd (Y.neqB rfl rfl rfl Try.underlying4) rfl rfl rfl ?_
      | refine Jl.yd (Y.cmp rfl rfl rfl rfl) rfl rfl rfl ?_
      | refine Jl.yd (Y.not rfl rfl) rfl rfl rfl ?_
      | refine Jl.yd (Y.arithN rfl rfl rfl rfl (by omega)) rfl rfl rfl ?_
      | refine Jl.yd (Y.arith64 rfl rfl rfl rfl) rfl rfl rfl ?_
      | refine Jl.yd (Y.load1 rfl rfl sc3 (by repeat (first | exact .head _ | refine .tail _ ?_)) (by rfl)) rfl rfl rfl ?_
      | refine Jl.yd (Y.fld0 rfl rfl fld51_1) rfl rfl rfl ?_
      | refine Jl.yd (Y.lenS Try.underlying25 rfl rfl rfl) rfl rfl rfl ?_
      | refine Jl.yd (Y.lenS Try.underlying29 rfl rfl rfl) rfl rfl rfl ?_
      | refine Jl.yd (Y.lenS Try.underlying80 rfl rfl rfl) rfl rfl rfl ?_
      | refine Jl.yd (Y.idx rfl rfl rfl el29 (by omega) (by omega)) rfl rfl rfl ?_
      | refine Jl.yd (Y.loadI rfl rfl sc3 (by repeat (first | exact .head _ | refine .tail _ ?_)) (k : Int) (by omega) (by omega) rfl) rfl rfl rfl ?_
      | refine Jl.yd (Y.cmpT rfl rfl rfl rfl (by omega)) rfl rfl rfl ?_
      | refine Jl.callR 0 (fun v => v) rfl rfl rfl rfl en91 rfl (fun w hW => by with_reducible exact slices_Clone_int_int.calls Ap cp p p w (hW.fact (p := (fun W => (Kd.int .i64).C W Ap p.length p)) (by repeat (first | exact memH | refine memT ?_))) hcp (clone_f p (by omega))) (fun A3 c3 hl3 => ?_)
      | refine Jl.lit1 rfl rfl rfl rfl rfl el29 zero3 rfl (fun g4 => ?_)
      | refine Jl.lit1 rfl rfl rfl rfl rfl el80 zero29 rfl (fun g5 => ?_)
      | refine Jl.app (dk := Kd.int .i64) (xs := p) (k : Int) (fun _ => False) rfl rfl rfl rfl rfl rfl ap29 (by repeat (first | exact .head _ | refine .tail _ ?_)) rfl (fun w => rfl) (fun u hu => by rw [List.mem_singleton.1 hu]; rfl) (by repeat (first | exact .z | apply OutAt.s)) (by omega) (by omega) (fun A6 c6 hc6 => ?_)
      | refine Jl.appV (vs := vs3) (xs := midN m x.f1 (plansTo l m i) j ++ extN m x.f1 p k) rfl rfl rfl rfl rfl rfl ap80 (by repeat (first | exact .head _ | refine .tail _ ?_)) rfl (by repeat (first | exact .z | apply OutAt.s)) (by repeat (first | exact .z | apply OutAt.s)) (by repeat (first | exact .head _ | refine .tail _ ?_)) (by omega) (by omega) (fun A7 c7 hc7 => ?_)
      | refine Jl.splitG rfl rfl (fun h => ?_) (fun h => ?_))
    | (apply gateE; first
      | refine Jl.nil (Ej.go ?_ (fun _ _ h => h))
      | (refine Jl.nil (Ej.back (fun _ _ h => h) (by repeat (first | exact .refl | apply DropTo.tail)) ?_); repeat (first | exact trivial | refine ⟨rfl, ?_⟩)))
    | (apply gateC; first
      | refine Cj.block rfl ?_
      | refine Cj.condF rfl rfl (Cj.skip rfl (Ej.go ?_ (fun _ _ h => h)))
      | (refine Cj.condF rfl rfl (Cj.skip rfl (Ej.back (fun _ _ h => h) (by repeat (first | exact .refl | apply DropTo.tail)) ?_)); repeat (first | exact trivial | refine ⟨rfl, ?_⟩))
      | refine Cj.condF rfl rfl ?_
      | refine Cj.condT rfl rfl ?_
      | refine Cj.exit rfl (Ej.go ?_ (fun _ _ h => h))
      | refine Cj.cond rfl rfl (fun h => ?_) (fun h => ?_)
      | refine Cj.skip rfl (Ej.go ?_ (fun _ _ h => h))
      | (refine Cj.skip rfl (Ej.back (fun _ _ h => h) (by repeat (first | exact .refl | apply DropTo.tail)) ?_); repeat (first | exact trivial | refine ⟨rfl, ?_⟩))
      | refine Cj.seq rfl ?_
      | refine Cj.region rfl ?_))
          refine Jl.nil (Ej.cutP (ι := Nat × Option Addr × Nat × List Value) _ _ _ _ (fun _ _ h => h) (k + 1, A7, c7, vs3 ++ [.slice A6 (p ++ [(k : Int)]).length c6]) ⟨⟨by omega, by dsimp only; rw [hE]; simp only [List.length_append, List.length_cons, List.length_nil]; omega⟩, by dsimp only; omega⟩ ⟨rfl, rfl, rfl, rfl, rfl, rfl, rfl, rfl, rfl, rfl, rfl, rfl, rfl, rfl, rfl, trivial⟩ (by repeat (first | exact .nil | refine Pick.cons (by repeat (first | exact .z | apply OutAt.s)) ?_)) (fun q hq => by
            dsimp only at hq; rw [hE] at hq
            rcases List.mem_cons.1 hq with rfl | hq
            · exact List.mem_cons_self
            · exact List.mem_cons_of_mem _ (List.mem_cons_of_mem _ hq)))
        · have hE : extN m x.f1 p (k + 1) = extN m x.f1 p k := by
            rw [extN, if_neg (by rw [← hnk]; exact hw)]
          repeat (first
    | (apply gateO; first
      | refine Jl.yd (Y.mv rfl rfl) rfl rfl rfl ?_
      | refine Jl.yd (Y.asg rfl rfl) rfl rfl rfl ?_
      | refine Jl.yd (Y.ext rfl rfl rfl) rfl rfl rfl ?_
      | refine Jl.yd (Y.pickT rfl rfl rfl) rfl rfl rfl ?_
      | refine Jl.yd (Y.pickF rfl rfl rfl) rfl rfl rfl ?_
      | refine Jl.off rfl rfl rfl ?_
      | refine Jl.yd (Y.cmpF rfl rfl rfl rfl (by omega)) rfl rfl rfl ?_
      | refine Jl.yd (Y.cmpT rfl rfl rfl rfl (by omega)) rfl rfl rfl ?_
      | refine Jl.yd (Y.neqB rfl rfl rfl Try.underlying4) rfl rfl rfl ?_
      | refine Jl.yd (Y.cmp rfl rfl rfl rfl) rfl rfl rfl ?_
      | refine Jl.yd (Y.not rfl rfl) rfl rfl rfl ?_
      | refine Jl.yd (Y.arithN rfl rfl rfl rfl (by omega)) rfl rfl rfl ?_
      | refine Jl.yd (Y.arith64 rfl rfl rfl rfl) rfl rfl rfl ?_
      | refine Jl.yd (Y.load1 rfl rfl sc3 (by repeat (first | exact .head _ | refine .tail _ ?_)) (by rfl)) rfl rfl rfl ?_
      | refine Jl.yd (Y.fld0 rfl rfl fld51_1) rfl rfl rfl ?_
      | refine Jl.yd (Y.lenS Try.underlying25 rfl rfl rfl) rfl rfl rfl ?_
      | refine Jl.yd (Y.lenS Try.underlying29 rfl rfl rfl) rfl rfl rfl ?_
      | refine Jl.yd (Y.lenS Try.underlying80 rfl rfl rfl) rfl rfl rfl ?_
      | refine Jl.yd (Y.idx rfl rfl rfl el29 (by omega) (by omega)) rfl rfl rfl ?_
      | refine Jl.yd (Y.loadI rfl rfl sc3 (by repeat (first | exact .head _ | refine .tail _ ?_)) (k : Int) (by omega) (by omega) rfl) rfl rfl rfl ?_
      | refine Jl.yd (Y.cmpF rfl rfl rfl rfl (by omega)) rfl rfl rfl ?_
      | refine Jl.splitG rfl rfl (fun h => ?_) (fun h => ?_))
    | (apply gateE; first
      | refine Jl.nil (Ej.go ?_ (fun _ _ h => h))
      | (refine Jl.nil (Ej.back (fun _ _ h => h) (by repeat (first | exact .refl | apply DropTo.tail)) ?_); repeat (first | exact trivial | refine ⟨rfl, ?_⟩)))
    | (apply gateC; first
      | refine Cj.block rfl ?_
      | refine Cj.condF rfl rfl (Cj.skip rfl (Ej.go ?_ (fun _ _ h => h)))
      | (refine Cj.condF rfl rfl (Cj.skip rfl (Ej.back (fun _ _ h => h) (by repeat (first | exact .refl | apply DropTo.tail)) ?_)); repeat (first | exact trivial | refine ⟨rfl, ?_⟩))
      | refine Cj.condF rfl rfl ?_
      | refine Cj.condT rfl rfl ?_
      | refine Cj.exit rfl (Ej.go ?_ (fun _ _ h => h))
      | refine Cj.cond rfl rfl (fun h => ?_) (fun h => ?_)
      | refine Cj.skip rfl (Ej.go ?_ (fun _ _ h => h))
      | (refine Cj.skip rfl (Ej.back (fun _ _ h => h) (by repeat (first | exact .refl | apply DropTo.tail)) ?_); repeat (first | exact trivial | refine ⟨rfl, ?_⟩))
      | refine Cj.seq rfl ?_
      | refine Cj.region rfl ?_))
          refine Jl.nil (Ej.cutP (ι := Nat × Option Addr × Nat × List Value) _ _ _ _ (fun _ _ h => h) (k + 1, A3', c3', vs3) ⟨⟨by omega, by dsimp only; rw [hE, List.length_append]; exact hvl3⟩, by dsimp only; omega⟩ ⟨rfl, rfl, rfl, rfl, rfl, rfl, rfl, rfl, rfl, rfl, rfl, rfl, rfl, rfl, rfl, trivial⟩ (by repeat (first | exact .nil | refine Pick.cons (by repeat (first | exact .z | apply OutAt.s)) ?_)) (fun q hq => by dsimp only at hq; rw [hE] at hq; exact hq))
      · obtain rfl : k = m.length := by omega
        repeat (first
    | (apply gateO; first
      | refine Jl.yd (Y.mv rfl rfl) rfl rfl rfl ?_
      | refine Jl.yd (Y.asg rfl rfl) rfl rfl rfl ?_
      | refine Jl.yd (Y.ext rfl rfl rfl) rfl rfl rfl ?_
      | refine Jl.yd (Y.pickT rfl rfl rfl) rfl rfl rfl ?_
      | refine Jl.yd (Y.pickF rfl rfl rfl) rfl rfl rfl ?_
      | refine Jl.off rfl rfl rfl ?_
      | refine Jl.yd (Y.cmpF rfl rfl rfl rfl (by omega)) rfl rfl rfl ?_
      | refine Jl.yd (Y.cmpT rfl rfl rfl rfl (by omega)) rfl rfl rfl ?_
      | refine Jl.yd (Y.neqB rfl rfl rfl Try.underlying4) rfl rfl rfl ?_
      | refine Jl.yd (Y.cmp rfl rfl rfl rfl) rfl rfl rfl ?_
      | refine Jl.yd (Y.not rfl rfl) rfl rfl rfl ?_
      | refine Jl.yd (Y.arithN rfl rfl rfl rfl (by omega)) rfl rfl rfl ?_
      | refine Jl.yd (Y.arith64 rfl rfl rfl rfl) rfl rfl rfl ?_
      | refine Jl.splitG rfl rfl (fun h => ?_) (fun h => ?_))
    | (apply gateE; first
      | refine Jl.nil (Ej.go ?_ (fun _ _ h => h))
      | (refine Jl.nil (Ej.back (fun _ _ h => h) (by repeat (first | exact .refl | apply DropTo.tail)) ?_); repeat (first | exact trivial | refine ⟨rfl, ?_⟩)))
    | (apply gateC; first
      | refine Cj.block rfl ?_
      | refine Cj.condF rfl rfl (Cj.skip rfl (Ej.go ?_ (fun _ _ h => h)))
      | (refine Cj.condF rfl rfl (Cj.skip rfl (Ej.back (fun _ _ h => h) (by repeat (first | exact .refl | apply DropTo.tail)) ?_)); repeat (first | exact trivial | refine ⟨rfl, ?_⟩))
      | refine Cj.condF rfl rfl ?_
      | refine Cj.condT rfl rfl ?_
      | refine Cj.exit rfl (Ej.go ?_ (fun _ _ h => h))
      | refine Cj.cond rfl rfl (fun h => ?_) (fun h => ?_)
      | refine Cj.skip rfl (Ej.go ?_ (fun _ _ h => h))
      | (refine Cj.skip rfl (Ej.back (fun _ _ h => h) (by repeat (first | exact .refl | apply DropTo.tail)) ?_); repeat (first | exact trivial | refine ⟨rfl, ?_⟩))
      | refine Cj.seq rfl ?_
      | refine Cj.region rfl ?_))
        have hE : midN m x.f1 (plansTo l m i) (j + 1) = midN m x.f1 (plansTo l m i) j ++ extN m x.f1 p m.length := by rw [midN, hpn]
        refine Jl.nil (Ej.cutP (ι := Nat × Option Addr × Nat × List Value) _ _ _ _ (fun _ _ h => h) (j + 1, A3', c3', vs3) ⟨⟨by omega, by dsimp only; rw [hE]; exact hvl3⟩, by dsimp only; omega⟩ ⟨rfl, rfl, rfl, rfl, rfl, rfl, rfl, rfl, rfl, rfl, rfl, trivial⟩ (by repeat (first | exact .nil | refine Pick.cons (by repeat (first | exact .z | apply OutAt.s)) ?_)) (fun q hq => by
          dsimp only at hq; rw [hE] at hq
          simp only [List.mem_cons] at hq ⊢
          rcases hq with h | h | h
          · exact .inl h
          · exact .inr (.inr (.inl h))
          · exact .inr (.inr (.inr h))))
    · obtain rfl : j = vs.length := by omega
      repeat (first
    | (apply gateO; first
      | refine Jl.yd (Y.mv rfl rfl) rfl rfl rfl ?_
      | refine Jl.yd (Y.asg rfl rfl) rfl rfl rfl ?_
      | refine Jl.yd (Y.ext rfl rfl rfl) rfl rfl rfl ?_
      | refine Jl.yd (Y.pickT rfl rfl rfl) rfl rfl rfl ?_
      | refine Jl.yd (Y.pickF rfl rfl rfl) rfl rfl rfl ?_
      | refine Jl.off rfl rfl rfl ?_
      | refine Jl.yd (Y.cmpF rfl rfl rfl rfl (by omega)) rfl rfl rfl ?_
      | refine Jl.yd (Y.cmpT rfl rfl rfl rfl (by omega)) rfl rfl rfl ?_
      | refine Jl.yd (Y.neqB rfl rfl rfl Try.underlying4) rfl rfl rfl ?_
      | refine Jl.yd (Y.cmp rfl rfl rfl rfl) rfl rfl rfl ?_
      | refine Jl.yd (Y.not rfl rfl) rfl rfl rfl ?_
      | refine Jl.yd (Y.arithN rfl rfl rfl rfl (by omega)) rfl rfl rfl ?_
      | refine Jl.yd (Y.arith64 rfl rfl rfl rfl) rfl rfl rfl ?_
      | refine Jl.splitG rfl rfl (fun h => ?_) (fun h => ?_))
    | (apply gateE; first
      | refine Jl.nil (Ej.go ?_ (fun _ _ h => h))
      | (refine Jl.nil (Ej.back (fun _ _ h => h) (by repeat (first | exact .refl | apply DropTo.tail)) ?_); repeat (first | exact trivial | refine ⟨rfl, ?_⟩)))
    | (apply gateC; first
      | refine Cj.block rfl ?_
      | refine Cj.condF rfl rfl (Cj.skip rfl (Ej.go ?_ (fun _ _ h => h)))
      | (refine Cj.condF rfl rfl (Cj.skip rfl (Ej.back (fun _ _ h => h) (by repeat (first | exact .refl | apply DropTo.tail)) ?_)); repeat (first | exact trivial | refine ⟨rfl, ?_⟩))
      | refine Cj.condF rfl rfl ?_
      | refine Cj.condT rfl rfl ?_
      | refine Cj.exit rfl (Ej.go ?_ (fun _ _ h => h))
      | refine Cj.cond rfl rfl (fun h => ?_) (fun h => ?_)
      | refine Cj.skip rfl (Ej.go ?_ (fun _ _ h => h))
      | (refine Cj.skip rfl (Ej.back (fun _ _ h => h) (by repeat (first | exact .refl | apply DropTo.tail)) ?_); repeat (first | exact trivial | refine ⟨rfl, ?_⟩))
      | refine Cj.seq rfl ?_
      | refine Cj.region rfl ?_))
      refine Jl.nil (Ej.ws (ι := Unit) (fun _ => True) (fun _ => [.box g7 51 [.int .i64 x.f0, .int .i64 x.f1, .int .i64 x.f2, .int .i64 x.f3, .int .i64 x.f4]]) (fun _ => [GV 29 3 w.heap.size (.slice A2 vs2.length c2) vs2 (plansTo l m (i + 1)), (fun W => Kd.C k51 W (some ad0) l.length l), (fun W => Kd.C (Kd.int .i64) W A1 m.length m)]) (fun w' hW => ⟨(), trivial, by
        have h1 := WS.wholeV (n := 0) (eS := 29) (eI := 3) (vs := vs2) (xs := midN m x.f1 (plansTo l m i) vs.length) hW rfl List.mem_cons_self
        have e : plansTo l m (i + 1) = midN m x.f1 (plansTo l m i) vs.length := by rw [plansTo, hx, ← hvl]
        rw [e]
        refine h1.sub (fun q hq => ?_)
        rcases List.mem_cons.1 hq with rfl | hq
        · exact List.mem_cons_self
        · exact List.mem_cons_of_mem _ (List.mem_cons_of_mem _ (List.mem_cons_of_mem _ hq))⟩) (fun _ _ => ?_))
      refine Ej.cutP (ι := Nat × Option Addr × Nat × List Value) _ _ _ _ (fun _ _ h => h) (i + 1, A2, c2, vs2) ⟨⟨by omega, by dsimp only; rw [plansTo, hx, ← hvl]; exact hvl2⟩, by dsimp only; omega⟩ ⟨rfl, rfl, rfl, rfl, rfl, rfl, trivial⟩ (by repeat (first | exact .nil | refine Pick.cons (by repeat (first | exact .z | apply OutAt.s)) ?_)) (fun q hq => hq)
  · obtain rfl : i = l.length := by omega
    repeat (first
    | (apply gateO; first
      | refine Jl.yd (Y.mv rfl rfl) rfl rfl rfl ?_
      | refine Jl.yd (Y.asg rfl rfl) rfl rfl rfl ?_
      | refine Jl.yd (Y.ext rfl rfl rfl) rfl rfl rfl ?_
      | refine Jl.yd (Y.pickT rfl rfl rfl) rfl rfl rfl ?_
      | refine Jl.yd (Y.pickF rfl rfl rfl) rfl rfl rfl ?_
      | refine Jl.off rfl rfl rfl ?_
      | refine Jl.yd (Y.cmpF rfl rfl rfl rfl (by omega)) rfl rfl rfl ?_
      | refine Jl.yd (Y.cmpT rfl rfl rfl rfl (by omega)) rfl rfl rfl ?_
      | refine Jl.yd (Y.neqB rfl rfl rfl Try.underlying4) rfl rfl rfl ?_
      | refine Jl.yd (Y.cmp rfl rfl rfl rfl) rfl rfl rfl ?_
      | refine Jl.yd (Y.not rfl rfl) rfl rfl rfl ?_
      | refine Jl.yd (Y.arithN rfl rfl rfl rfl (by omega)) rfl rfl rfl ?_
      | refine Jl.yd (Y.arith64 rfl rfl rfl rfl) rfl rfl rfl ?_
      | refine Jl.splitG rfl rfl (fun h => ?_) (fun h => ?_))
    | (apply gateE; first
      | refine Jl.nil (Ej.go ?_ (fun _ _ h => h))
      | (refine Jl.nil (Ej.back (fun _ _ h => h) (by repeat (first | exact .refl | apply DropTo.tail)) ?_); repeat (first | exact trivial | refine ⟨rfl, ?_⟩)))
    | (apply gateC; first
      | refine Cj.block rfl ?_
      | refine Cj.condF rfl rfl (Cj.skip rfl (Ej.go ?_ (fun _ _ h => h)))
      | (refine Cj.condF rfl rfl (Cj.skip rfl (Ej.back (fun _ _ h => h) (by repeat (first | exact .refl | apply DropTo.tail)) ?_)); repeat (first | exact trivial | refine ⟨rfl, ?_⟩))
      | refine Cj.condF rfl rfl ?_
      | refine Cj.condT rfl rfl ?_
      | refine Cj.exit rfl (Ej.go ?_ (fun _ _ h => h))
      | refine Cj.cond rfl rfl (fun h => ?_) (fun h => ?_)
      | refine Cj.skip rfl (Ej.go ?_ (fun _ _ h => h))
      | (refine Cj.skip rfl (Ej.back (fun _ _ h => h) (by repeat (first | exact .refl | apply DropTo.tail)) ?_); repeat (first | exact trivial | refine ⟨rfl, ?_⟩))
      | refine Cj.seq rfl ?_
      | refine Cj.region rfl ?_))
    refine Cj.ret rfl (Ej.out1 (P := Try.prog) (fn := Try.f74) (R := Rr) (fun _ _ h => h) rfl rfl (fun w' hW => ⟨A, c, vs, rfl, hW.fact (by repeat (first | exact memH | refine memT ?_)), hW.below⟩))
end Pl
theorem cmp_f (a b : Int) : cmp_Compare_int.f a b = some (cmpI a b) := by
  unfold cmp_Compare_int.f cmp_isNaN_int.f cmpI
  rw [show (a != a) = false by simp, show (b != b) = false by simp]
  simp only [Option.bind_some, Bool.false_eq_true, if_false]
  repeat' split
  all_goals rfl
theorem or_f (a b : Int) : cmp_Or_int.f 4 [a, b] = some (orI a b) := by
  unfold cmp_Or_int.f orI
  have h2 : wrap64 1 = 1 := by unfold wrap64; omega
  have h3 : wrap64 2 = 2 := by unfold wrap64; omega
  by_cases h : a = 0
  · by_cases h' : b = 0
    · simp [cmp_Or_int.l0, rd, h2, h3, h, h']
    · simp [cmp_Or_int.l0, rd, h2, h3, h, h']
  · simp [cmp_Or_int.l0, rd, h2, h3, h]
theorem cmp_c (a b : Int) (w : World) : Calls Try.prog 77 #[.int .i64 a, .int .i64 b] w fun e w' => e = .returned (.int .i64 (cmpI a b)) ∧ Below w.heap.size w w' := (cmp_Compare_int.calls a b _ w (cmp_f a b)).mono (fun _ _ h => ⟨h.1, h.2.below⟩)
theorem or_c (g : Nat) (a b : Int) (w : World) (h : w.heap[g]? = some (.cells [.int .i64 a, .int .i64 b].toArray 3 (0, 0))) : Calls Try.prog 78 #[.slice (some ⟨g, 0, none⟩) 2 2] w fun e w' => e = .returned (.int .i64 (orI a b)) ∧ Below w.heap.size w w' :=
  (cmp_Or_int.calls 4 (some ⟨g, 0, none⟩) 2 [a, b] _ w (C_box [a, b] h (by simp)) (Nat.le_refl _) (or_f a b)).mono (fun _ _ h => ⟨h.1, h.2.below⟩)
namespace Cl
set_option maxHeartbeats 4000000 in
theorem calls (A0 : Option Addr) (c0 : Nat) (l : List S51) (A1 : Option Addr) (c1 : Nat) (m : List Int) (Ax : Option Addr) (cx : Nat) (p : List Int) (Ay : Option Addr) (cy : Nat) (q : List Int) (gj gm : Nat) (w : World) (hr0 : Kd.C k51 w A0 l.length l) (hc0 : l.length ≤ c0) (hr1 : Kd.C (Kd.int .i64) w A1 m.length m) (hc1 : m.length ≤ c1)
    (hrx : Kd.C (Kd.int .i64) w Ax p.length p) (hcx : p.length ≤ cx) (hry : Kd.C (Kd.int .i64) w Ay q.length q) (hcy : q.length ≤ cy) (hgj : Cells w ⟨gj, 0, none⟩ [.slice A0 l.length c0]) (hgm : Cells w ⟨gm, 0, none⟩ [.slice A1 m.length c1])
    (ep fp eq fq : List Int) (dp dq xp xq : Int) (kp kq jp jq ip iq : Nat) (hp : impl_ends.f kp l m p = some (ep, fp)) (hq : impl_ends.f kq l m q = some (eq, fq)) (hdp : impl_lateDays.f jp l m p = some dp) (hdq : impl_lateDays.f jq l m q = some dq) (hxp : slices_Max_int_int.f ip fp = some xp) (hxq : slices_Max_int_int.f iq fq = some xq) :
    Calls Try.prog 76 #[.slice Ax p.length cx, .slice Ay q.length cy, .pointer (some ⟨gj, 0, none⟩), .pointer (some ⟨gm, 0, none⟩)] w fun e w' => e = .returned (.int .i64 (orI (cmpI dp dq) (cmpI xp xq))) ∧ Below w.heap.size w w' := by
  let Rr : Ending → World → Prop := fun e w' => e = .returned (.int .i64 (orI (cmpI dp dq) (cmpI xp xq))) ∧ Below w.heap.size w w'
  refine enterW (args := [.slice Ax p.length cx, .slice Ay q.length cy, .pointer (some ⟨gj, 0, none⟩), .pointer (some ⟨gm, 0, none⟩)]) [(fun W => Kd.C k51 W A0 l.length l), (fun W => Kd.C (Kd.int .i64) W A1 m.length m), (fun W => (Kd.int .i64).C W Ax p.length p), (fun W => (Kd.int .i64).C W Ay q.length q), (fun W => Cells W ⟨gj, 0, none⟩ [.slice A0 l.length c0]), (fun W => Cells W ⟨gm, 0, none⟩ [.slice A1 m.length c1])] (fun p hp W hb => by
    rcases List.mem_cons.1 hp with rfl | hp
    · exact Kd.C_below hr0 hb
    rcases List.mem_cons.1 hp with rfl | hp
    · exact Kd.C_below hr1 hb
    rcases List.mem_cons.1 hp with rfl | hp
    · exact Kd.C_below hrx hb
    rcases List.mem_cons.1 hp with rfl | hp
    · exact Kd.C_below hry hb
    rcases List.mem_cons.1 hp with rfl | hp
    · exact Cells_below hgj hb
    · rw [List.mem_singleton.1 hp]; exact Cells_below hgm hb) Try.func76 rfl rfl ?_
  show Cj Try.prog _ _ _ (bodyPost Try.prog Try.f76 Rr) _ _ _
  repeat (first
    | (apply gateO; first
      | refine Jl.yd (Y.mv rfl rfl) rfl rfl rfl ?_
      | refine Jl.yd (Y.asg rfl rfl) rfl rfl rfl ?_
      | refine Jl.yd (Y.ext rfl rfl rfl) rfl rfl rfl ?_
      | refine Jl.yd (Y.pickT rfl rfl rfl) rfl rfl rfl ?_
      | refine Jl.yd (Y.pickF rfl rfl rfl) rfl rfl rfl ?_
      | refine Jl.off rfl rfl rfl ?_
      | refine Jl.yd (Y.cmpF rfl rfl rfl rfl (by omega)) rfl rfl rfl ?_
      | refine Jl.yd (Y.cmpT rfl rfl rfl rfl (by omega)) rfl rfl rfl ?_
      | refine Jl.yd (Y.neqB rfl rfl rfl Try.underlying4) rfl rfl rfl ?_
      | refine Jl.yd (Y.cmp rfl rfl rfl rfl) rfl rfl rfl ?_
      | refine Jl.yd (Y.not rfl rfl) rfl rfl rfl ?_
      | refine Jl.yd (Y.arithN rfl rfl rfl rfl (by omega)) rfl rfl rfl ?_
      | refine Jl.yd (Y.arith64 rfl rfl rfl rfl) rfl rfl rfl ?_
      | refine Jl.yd (Y.loadG (ad := ⟨gj, 0, none⟩) (us := [.slice A0 l.length c0]) rfl rfl (by with_reducible (repeat (first | exact memH | refine memT ?_))) sc25 0 rfl rfl) rfl rfl rfl ?_
      | refine Jl.yd (Y.loadG (ad := ⟨gm, 0, none⟩) (us := [.slice A1 m.length c1]) rfl rfl (by with_reducible (repeat (first | exact memH | refine memT ?_))) sc29 0 rfl rfl) rfl rfl rfl ?_
      | refine Jl.draw2 (fun v0 v1 => .tuple #[v0, v1]) ep fp rfl rfl rfl rfl en63 rfl (fun w hW => by with_reducible exact impl_ends.calls kp A0 c0 l A1 c1 m Ax cx p ep fp w (hW.fact (p := (fun W => Kd.C k51 W A0 l.length l)) (by repeat (first | exact memH | refine memT ?_))) hc0 (hW.fact (p := (fun W => Kd.C (Kd.int .i64) W A1 m.length m)) (by repeat (first | exact memH | refine memT ?_))) hc1 (hW.fact (p := (fun W => (Kd.int .i64).C W Ax p.length p)) (by repeat (first | exact memH | refine memT ?_))) hcx hp) (fun Ap1 cp1 Ap2 cp2 hlp1 hlp2 => ?_)
      | refine Jl.draw2 (fun v0 v1 => .tuple #[v0, v1]) eq fq rfl rfl rfl rfl en63 rfl (fun w hW => by with_reducible exact impl_ends.calls kq A0 c0 l A1 c1 m Ay cy q eq fq w (hW.fact (p := (fun W => Kd.C k51 W A0 l.length l)) (by repeat (first | exact memH | refine memT ?_))) hc0 (hW.fact (p := (fun W => Kd.C (Kd.int .i64) W A1 m.length m)) (by repeat (first | exact memH | refine memT ?_))) hc1 (hW.fact (p := (fun W => (Kd.int .i64).C W Ay q.length q)) (by repeat (first | exact memH | refine memT ?_))) hcy hq) (fun Aq1 cq1 Aq2 cq2 hlq1 hlq2 => ?_)
      | refine Jl.call1 (v := .int .i64 dp) rfl rfl rfl rfl en65 rfl (fun w hW => by with_reducible exact impl_lateDays.calls jp A0 c0 l A1 c1 m Ax cx p dp w (hW.fact (p := (fun W => Kd.C k51 W A0 l.length l)) (by repeat (first | exact memH | refine memT ?_))) hc0 (hW.fact (p := (fun W => Kd.C (Kd.int .i64) W A1 m.length m)) (by repeat (first | exact memH | refine memT ?_))) hc1 (hW.fact (p := (fun W => (Kd.int .i64).C W Ax p.length p)) (by repeat (first | exact memH | refine memT ?_))) hcx hdp) ?_
      | refine Jl.call1 (v := .int .i64 dq) rfl rfl rfl rfl en65 rfl (fun w hW => by with_reducible exact impl_lateDays.calls jq A0 c0 l A1 c1 m Ay cy q dq w (hW.fact (p := (fun W => Kd.C k51 W A0 l.length l)) (by repeat (first | exact memH | refine memT ?_))) hc0 (hW.fact (p := (fun W => Kd.C (Kd.int .i64) W A1 m.length m)) (by repeat (first | exact memH | refine memT ?_))) hc1 (hW.fact (p := (fun W => (Kd.int .i64).C W Ay q.length q)) (by repeat (first | exact memH | refine memT ?_))) hcy hdq) ?_
      | refine Jl.call1 (v := .int .i64 (cmpI dp dq)) rfl rfl rfl rfl en77 rfl (fun w hW => by with_reducible exact cmp_c dp dq w) ?_
      | refine Jl.call1 (v := .int .i64 xp) rfl rfl rfl rfl en67 rfl (fun w hW => by with_reducible exact slices_Max_int_int.calls ip Ap2 cp2 fp xp w (hW.fact (p := (fun W => (Kd.int .i64).C W Ap2 fp.length fp)) (by repeat (first | exact memH | refine memT ?_))) hlp2 hxp) ?_
      | refine Jl.call1 (v := .int .i64 xq) rfl rfl rfl rfl en67 rfl (fun w hW => by with_reducible exact slices_Max_int_int.calls iq Aq2 cq2 fq xq w (hW.fact (p := (fun W => (Kd.int .i64).C W Aq2 fq.length fq)) (by repeat (first | exact memH | refine memT ?_))) hlq2 hxq) ?_
      | refine Jl.call1 (v := .int .i64 (cmpI xp xq)) rfl rfl rfl rfl en77 rfl (fun w hW => by with_reducible exact cmp_c xp xq w) ?_
      | refine Jl.lit2 rfl rfl rfl rfl rfl rfl el29 zero3 (fun g7 => ?_)
      | refine Jl.call1 (v := .int .i64 (orI (cmpI dp dq) (cmpI xp xq))) rfl rfl rfl rfl en78 rfl (fun w hW => by with_reducible exact or_c g7 _ _ w (Box_at hW (by repeat (first | exact memH | refine memT ?_)))) ?_
      | refine Jl.splitG rfl rfl (fun h => ?_) (fun h => ?_))
    | (apply gateE; first
      | refine Jl.nil (Ej.go ?_ (fun _ _ h => h))
      | (refine Jl.nil (Ej.back (fun _ _ h => h) (by repeat (first | exact .refl | apply DropTo.tail)) ?_); repeat (first | exact trivial | refine ⟨rfl, ?_⟩)))
    | (apply gateC; first
      | refine Cj.block rfl ?_
      | refine Cj.regionD rfl (mkD [0, 1, 2, 3, 4, 5] []) [] [0, 1, 2, 4, 5, 6, 3, 7, 8, 9] mixed (by decide +kernel) ?_
      | refine Cj.ret rfl (Ej.out1 (P := Try.prog) (fn := Try.f76) (R := Rr) (fun _ _ h => h) rfl rfl (fun w' hW => ⟨rfl, hW.below⟩))
      | refine Cj.condF rfl rfl (Cj.skip rfl (Ej.go ?_ (fun _ _ h => h)))
      | (refine Cj.condF rfl rfl (Cj.skip rfl (Ej.back (fun _ _ h => h) (by repeat (first | exact .refl | apply DropTo.tail)) ?_)); repeat (first | exact trivial | refine ⟨rfl, ?_⟩))
      | refine Cj.condF rfl rfl ?_
      | refine Cj.condT rfl rfl ?_
      | refine Cj.exit rfl (Ej.go ?_ (fun _ _ h => h))
      | refine Cj.cond rfl rfl (fun h => ?_) (fun h => ?_)
      | refine Cj.skip rfl (Ej.go ?_ (fun _ _ h => h))
      | (refine Cj.skip rfl (Ej.back (fun _ _ h => h) (by repeat (first | exact .refl | apply DropTo.tail)) ?_); repeat (first | exact trivial | refine ⟨rfl, ?_⟩))
      | refine Cj.seq rfl ?_
      | refine Cj.region rfl ?_))
end Cl
namespace Mn
set_option maxHeartbeats 4000000 in
theorem calls (A0 : Option Addr) (c0 : Nat) (l : List S51) (A1 : Option Addr) (c1 : Nat) (m : List Int) (gj gm : Nat) (ad : Addr) (c : Nat) (vs : List Value) (xs : List (List Int)) (b0 : Nat) (w : World) (hr0 : Kd.C k51 w A0 l.length l) (hc0 : l.length ≤ c0) (hr1 : Kd.C (Kd.int .i64) w A1 m.length m) (hc1 : m.length ≤ c1)
    (hgj : Cells w ⟨gj, 0, none⟩ [.slice A0 l.length c0]) (hgm : Cells w ⟨gm, 0, none⟩ [.slice A1 m.length c1]) (hG : GV 29 3 b0 (.slice (some ad) vs.length c) vs xs w) (hx0 : 0 < xs.length) (hx1 : xs.length ≤ 1048576) (hev : ∀ p, p ∈ xs → EvP l m p) :
    Calls Try.prog 75 #[.slice (some ad) (vs : List Value).length c, .func (.func 76) #[] #[.pointer (some ⟨gj, 0, none⟩), .pointer (some ⟨gm, 0, none⟩)]] w fun e w' => e = .returned (nth vs (bxP l m xs (xs.length - 1)) undef) ∧ Below w.heap.size w w' := by
  have hvl := hG.els.len
  let Rr : Ending → World → Prop := fun e w' => e = .returned (nth vs (bxP l m xs (xs.length - 1)) undef) ∧ Below w.heap.size w w'
  obtain ⟨u0, hu0⟩ : ∃ u, vs[0]? = some u := ⟨_, List.getElem?_eq_getElem (by omega)⟩
  have h0v : vs[((0 : Int)).toNat]? = some u0 := hu0
  have h0n : nth vs 0 undef = u0 := by unfold nth; rw [List.getD_eq_getElem?_getD, hu0]; rfl
  refine enterW (args := [.slice (some ad) (vs : List Value).length c, .func (.func 76) #[] #[.pointer (some ⟨gj, 0, none⟩), .pointer (some ⟨gm, 0, none⟩)]]) [GV 29 3 b0 (.slice (some ad) vs.length c) vs xs, (fun W => Kd.C k51 W A0 l.length l), (fun W => Kd.C (Kd.int .i64) W A1 m.length m), (fun W => Cells W ⟨gj, 0, none⟩ [.slice A0 l.length c0]), (fun W => Cells W ⟨gm, 0, none⟩ [.slice A1 m.length c1])] (fun p hp W hb => by
    rcases List.mem_cons.1 hp with rfl | hp
    · exact hG.move (fun k _ hk => hb.block k hk)
    rcases List.mem_cons.1 hp with rfl | hp
    · exact Kd.C_below hr0 hb
    rcases List.mem_cons.1 hp with rfl | hp
    · exact Kd.C_below hr1 hb
    rcases List.mem_cons.1 hp with rfl | hp
    · exact Cells_below hgj hb
    · rw [List.mem_singleton.1 hp]; exact Cells_below hgm hb) Try.func75 rfl rfl ?_
  show Cj Try.prog _ _ _ (bodyPost Try.prog Try.f75 Rr) _ _ _
  repeat (first
    | (apply gateO; first
      | refine Jl.yd (Y.mv rfl rfl) rfl rfl rfl ?_
      | refine Jl.yd (Y.asg rfl rfl) rfl rfl rfl ?_
      | refine Jl.yd (Y.ext rfl rfl rfl) rfl rfl rfl ?_
      | refine Jl.yd (Y.pickT rfl rfl rfl) rfl rfl rfl ?_
      | refine Jl.yd (Y.pickF rfl rfl rfl) rfl rfl rfl ?_
      | refine Jl.off rfl rfl rfl ?_
      | refine Jl.yd (Y.cmpF rfl rfl rfl rfl (by omega)) rfl rfl rfl ?_
      | refine Jl.yd (Y.cmpT rfl rfl rfl rfl (by omega)) rfl rfl rfl ?_
      | refine Jl.yd (Y.neqB rfl rfl rfl Try.underlying4) rfl rfl rfl ?_
      | refine Jl.yd (Y.cmp rfl rfl rfl rfl) rfl rfl rfl ?_
      | refine Jl.yd (Y.not rfl rfl) rfl rfl rfl ?_
      | refine Jl.yd (Y.arithN rfl rfl rfl rfl (by omega)) rfl rfl rfl ?_
      | refine Jl.yd (Y.arith64 rfl rfl rfl rfl) rfl rfl rfl ?_
      | refine Jl.yd (Y.lenS Try.underlying80 rfl rfl rfl) rfl rfl rfl ?_
      | refine Jl.yd (Y.cmpF rfl rfl rfl rfl (by omega)) rfl rfl rfl ?_
      | refine Jl.yd (Y.idx rfl rfl rfl el80 (by omega) (by omega)) rfl rfl rfl ?_
      | refine Jl.yd (Y.loadV rfl rfl sc29 (by with_reducible (repeat (first | exact memH | refine memT ?_))) (0 : Int) (by omega) (by omega) rfl h0v) rfl rfl rfl ?_
      | refine Jl.splitG rfl rfl (fun h => ?_) (fun h => ?_))
    | (apply gateE; first
      | refine Jl.nil (Ej.go ?_ (fun _ _ h => h))
      | (refine Jl.nil (Ej.back (fun _ _ h => h) (by repeat (first | exact .refl | apply DropTo.tail)) ?_); repeat (first | exact trivial | refine ⟨rfl, ?_⟩)))
    | (apply gateC; first
      | refine Cj.block rfl ?_
      | refine Cj.condF rfl rfl (Cj.skip rfl (Ej.go ?_ (fun _ _ h => h)))
      | (refine Cj.condF rfl rfl (Cj.skip rfl (Ej.back (fun _ _ h => h) (by repeat (first | exact .refl | apply DropTo.tail)) ?_)); repeat (first | exact trivial | refine ⟨rfl, ?_⟩))
      | refine Cj.condF rfl rfl ?_
      | refine Cj.condT rfl rfl ?_
      | refine Cj.exit rfl (Ej.go ?_ (fun _ _ h => h))
      | refine Cj.cond rfl rfl (fun h => ?_) (fun h => ?_)
      | refine Cj.skip rfl (Ej.go ?_ (fun _ _ h => h))
      | (refine Cj.skip rfl (Ej.back (fun _ _ h => h) (by repeat (first | exact .refl | apply DropTo.tail)) ?_); repeat (first | exact trivial | refine ⟨rfl, ?_⟩))
      | refine Cj.seq rfl ?_
      | refine Cj.region rfl ?_))
  refine Cj.loopP (ι := Nat) (fun q => q + 1 ≤ xs.length) (fun q => [(0, .slice (some ad) (vs : List Value).length c), (1, .func (.func 76) #[] #[.pointer (some ⟨gj, 0, none⟩), .pointer (some ⟨gm, 0, none⟩)]), (5, nth vs (bxP l m xs q) undef), (6, .int .i64 ((q + 1 : Nat) : Int))]) (fun _ => []) (fun _ => [GV 29 3 b0 (.slice (some ad) vs.length c) vs xs, (fun W => Kd.C k51 W A0 l.length l), (fun W => Kd.C (Kd.int .i64) W A1 m.length m), (fun W => Cells W ⟨gj, 0, none⟩ [.slice A0 l.length c0]), (fun W => Cells W ⟨gm, 0, none⟩ [.slice A1 m.length c1])]) (fun q => xs.length - q) rfl 0 hx0 ⟨rfl, rfl, by show _ = some (nth vs 0 undef); rw [h0n]; rfl, rfl, trivial⟩ (by repeat (first | exact .nil | refine Pick.cons (by repeat (first | exact .z | apply OutAt.s)) ?_)) (fun p hp => hp) (fun n hn => ?_)
  try dsimp only at hn
  try dsimp only
  have hbl := bxP_le l m xs n
  by_cases hlt : n + 1 < xs.length
  · obtain ⟨p, hp⟩ : ∃ p, xs[n + 1]? = some p := ⟨_, List.getElem?_eq_getElem hlt⟩
    obtain ⟨u, hu⟩ : ∃ u, vs[n + 1]? = some u := ⟨_, List.getElem?_eq_getElem (by omega)⟩
    obtain ⟨q, hq⟩ : ∃ q, xs[bxP l m xs n]? = some q := ⟨_, List.getElem?_eq_getElem (by omega)⟩
    obtain ⟨v, hv⟩ : ∃ v, vs[bxP l m xs n]? = some v := ⟨_, List.getElem?_eq_getElem (by omega)⟩
    have hpn : nth xs (n + 1) [] = p := by unfold nth; rw [List.getD_eq_getElem?_getD, hp]; rfl
    have hqn : nth xs (bxP l m xs n) [] = q := by unfold nth; rw [List.getD_eq_getElem?_getD, hq]; rfl
    have hun : nth vs (n + 1) undef = u := by unfold nth; rw [List.getD_eq_getElem?_getD, hu]; rfl
    have hvn : nth vs (bxP l m xs n) undef = v := by unfold nth; rw [List.getD_eq_getElem?_getD, hv]; rfl
    have hup' : vs[(((n + 1 : Nat) : Int)).toNat]? = some u := by rw [Int.toNat_natCast]; exact hu
    obtain ⟨⟨ep, fp, ip, jp, kp, e1, e2, e3⟩⟩ := hev p (List.mem_of_getElem? hp)
    obtain ⟨⟨eq, fq, iq, jq, kq, g1, g2, g3⟩⟩ := hev q (List.mem_of_getElem? hq)
    have hbx := bxP_succ l m xs n
    rw [hpn, hqn] at hbx
    have hcb := cmp_better l m p q
    obtain ⟨R_, hRe⟩ : ∃ R_, R_ = orI (cmpI (lateP l m p) (lateP l m q)) (cmpI (lastP l m p) (lastP l m q)) := ⟨_, rfl⟩
    rw [← hRe] at hcb
    rw [hvn]
    refine Cj.ws (ι := (Option Addr × Nat) × (Option Addr × Nat)) (fun s => (u = .slice s.1.1 p.length s.1.2 ∧ p.length ≤ s.1.2) ∧ (v = .slice s.2.1 q.length s.2.2 ∧ q.length ≤ s.2.2)) (fun _ => []) (fun s => [(fun W => (Kd.int .i64).C W s.1.1 p.length p), (fun W => (Kd.int .i64).C W s.2.1 q.length q), GV 29 3 b0 (.slice (some ad) vs.length c) vs xs, (fun W => Kd.C k51 W A0 l.length l), (fun W => Kd.C (Kd.int .i64) W A1 m.length m), (fun W => Cells W ⟨gj, 0, none⟩ [.slice A0 l.length c0]), (fun W => Cells W ⟨gm, 0, none⟩ [.slice A1 m.length c1])]) (fun w' hW => by
      have h1 := hW.elsV (eS := 29) (eI := 3) (b := b0) (v := .slice (some ad) vs.length c) (vs := vs) (xs := xs) List.mem_cons_self
      obtain ⟨Ay, cy, hy, h2⟩ := h1.elV (List.mem_cons_self) hq hv
      obtain ⟨Ax, cx, hx, h3⟩ := h2.elV (List.mem_cons_of_mem _ List.mem_cons_self) hp hu
      refine ⟨((Ax, cx), (Ay, cy)), ⟨hx, hy⟩, h3.sub (fun r hr => ?_)⟩
      rcases List.mem_cons.1 hr with rfl | hr
      · exact List.mem_cons_self
      rcases List.mem_cons.1 hr with rfl | hr
      · exact List.mem_cons_of_mem _ List.mem_cons_self
      · exact List.mem_cons_of_mem _ (List.mem_cons_of_mem _ (List.mem_cons_of_mem _ hr))) (fun s hs => ?_)
    obtain ⟨⟨Ax, cx⟩, ⟨Ay, cy⟩⟩ := s
    obtain ⟨⟨rfl, hcx⟩, rfl, hcy⟩ := hs
    dsimp only at hcx hcy ⊢
    have hcl : ∀ w' : World, (Kd.int .i64).C w' Ax p.length p → (Kd.int .i64).C w' Ay q.length q → Kd.C k51 w' A0 l.length l → (Kd.int .i64).C w' A1 m.length m → Cells w' ⟨gj, 0, none⟩ [.slice A0 l.length c0] → Cells w' ⟨gm, 0, none⟩ [.slice A1 m.length c1] →
        Calls Try.prog 76 #[.slice Ax p.length cx, .slice Ay q.length cy, .pointer (some ⟨gj, 0, none⟩), .pointer (some ⟨gm, 0, none⟩)] w' fun e w'' => e = .returned (.int .i64 R_) ∧ Below w'.heap.size w' w'' := fun w' a1 a2 a3 a4 a5 a6 => by
      rw [hRe]
      exact Cl.calls A0 c0 l A1 c1 m Ax cx p Ay cy q gj gm w' a3 hc0 a4 hc1 a1 hcx a2 hcy a5 a6 ep fp eq fq _ _ _ _ ip iq jp jq kp kq e1 g1 e2 g2 e3 g3
    clear e1 e2 e3 g1 g2 g3
    by_cases hR : R_ < 0
    · have hb2 : bxP l m xs (n + 1) = n + 1 := by rw [hbx, if_pos (hcb.1 hR)]
      repeat (first
    | (apply gateO; first
      | refine Jl.yd (Y.mv rfl rfl) rfl rfl rfl ?_
      | refine Jl.yd (Y.asg rfl rfl) rfl rfl rfl ?_
      | refine Jl.yd (Y.ext rfl rfl rfl) rfl rfl rfl ?_
      | refine Jl.yd (Y.pickT rfl rfl rfl) rfl rfl rfl ?_
      | refine Jl.yd (Y.pickF rfl rfl rfl) rfl rfl rfl ?_
      | refine Jl.off rfl rfl rfl ?_
      | refine Jl.yd (Y.cmpF rfl rfl rfl rfl (by omega)) rfl rfl rfl ?_
      | refine Jl.yd (Y.cmpT rfl rfl rfl rfl (by omega)) rfl rfl rfl ?_
      | refine Jl.yd (Y.neqB rfl rfl rfl Try.underlying4) rfl rfl rfl ?_
      | refine Jl.yd (Y.cmp rfl rfl rfl rfl) rfl rfl rfl ?_
      | refine Jl.yd (Y.not rfl rfl) rfl rfl rfl ?_
      | refine Jl.yd (Y.arithN rfl rfl rfl rfl (by omega)) rfl rfl rfl ?_
      | refine Jl.yd (Y.arith64 rfl rfl rfl rfl) rfl rfl rfl ?_
      | refine Jl.yd (Y.lenS Try.underlying80 rfl rfl rfl) rfl rfl rfl ?_
      | refine Jl.yd (Y.idx rfl rfl rfl el80 (by omega) (by omega)) rfl rfl rfl ?_
      | refine Jl.yd (Y.loadV rfl rfl sc29 (by with_reducible (repeat (first | exact memH | refine memT ?_))) ((n + 1 : Nat) : Int) (by omega) (by omega) rfl hup') rfl rfl rfl ?_
      | refine Jl.callc (v := .int .i64 R_) rfl rfl rfl rfl rfl en76 rfl (fun w hW => hcl w (hW.fact (p := (fun W => (Kd.int .i64).C W Ax p.length p)) (by repeat (first | exact memH | refine memT ?_))) (hW.fact (p := (fun W => (Kd.int .i64).C W Ay q.length q)) (by repeat (first | exact memH | refine memT ?_))) (hW.fact (p := (fun W => Kd.C k51 W A0 l.length l)) (by repeat (first | exact memH | refine memT ?_))) (hW.fact (p := (fun W => Kd.C (Kd.int .i64) W A1 m.length m)) (by repeat (first | exact memH | refine memT ?_))) (hW.fact (p := (fun W => Cells W ⟨gj, 0, none⟩ [.slice A0 l.length c0])) (by repeat (first | exact memH | refine memT ?_))) (hW.fact (p := (fun W => Cells W ⟨gm, 0, none⟩ [.slice A1 m.length c1])) (by repeat (first | exact memH | refine memT ?_)))) ?_
      | refine Jl.yd (Y.cmpT rfl rfl rfl rfl hR) rfl rfl rfl ?_
      | refine Jl.splitG rfl rfl (fun h => ?_) (fun h => ?_))
    | (apply gateE; first
      | refine Jl.nil (Ej.go ?_ (fun _ _ h => h))
      | (refine Jl.nil (Ej.back (fun _ _ h => h) (by repeat (first | exact .refl | apply DropTo.tail)) ?_); repeat (first | exact trivial | refine ⟨rfl, ?_⟩)))
    | (apply gateC; first
      | refine Cj.block rfl ?_
      | refine Cj.condF rfl rfl (Cj.skip rfl (Ej.go ?_ (fun _ _ h => h)))
      | (refine Cj.condF rfl rfl (Cj.skip rfl (Ej.back (fun _ _ h => h) (by repeat (first | exact .refl | apply DropTo.tail)) ?_)); repeat (first | exact trivial | refine ⟨rfl, ?_⟩))
      | refine Cj.condF rfl rfl ?_
      | refine Cj.condT rfl rfl ?_
      | refine Cj.exit rfl (Ej.go ?_ (fun _ _ h => h))
      | refine Cj.cond rfl rfl (fun h => ?_) (fun h => ?_)
      | refine Cj.skip rfl (Ej.go ?_ (fun _ _ h => h))
      | (refine Cj.skip rfl (Ej.back (fun _ _ h => h) (by repeat (first | exact .refl | apply DropTo.tail)) ?_); repeat (first | exact trivial | refine ⟨rfl, ?_⟩))
      | refine Cj.seq rfl ?_
      | refine Cj.region rfl ?_))
      refine Jl.nil (Ej.cutP (ι := Nat) _ _ _ _ (fun _ _ h => h) (n + 1) ⟨by omega, by omega⟩ ⟨rfl, rfl, by show _ = some (nth vs (bxP l m xs (n + 1)) undef); rw [hb2, hun]; rfl, rfl, trivial⟩ (by repeat (first | exact .nil | refine Pick.cons (by repeat (first | exact .z | apply OutAt.s)) ?_)) (fun r hr => by repeat (first | exact hr | refine List.mem_cons_of_mem _ ?_)))
    · have hb2 : bxP l m xs (n + 1) = bxP l m xs n := by rw [hbx, if_neg (fun h => hR (hcb.2 h))]
      repeat (first
    | (apply gateO; first
      | refine Jl.yd (Y.mv rfl rfl) rfl rfl rfl ?_
      | refine Jl.yd (Y.asg rfl rfl) rfl rfl rfl ?_
      | refine Jl.yd (Y.ext rfl rfl rfl) rfl rfl rfl ?_
      | refine Jl.yd (Y.pickT rfl rfl rfl) rfl rfl rfl ?_
      | refine Jl.yd (Y.pickF rfl rfl rfl) rfl rfl rfl ?_
      | refine Jl.off rfl rfl rfl ?_
      | refine Jl.yd (Y.cmpF rfl rfl rfl rfl (by omega)) rfl rfl rfl ?_
      | refine Jl.yd (Y.cmpT rfl rfl rfl rfl (by omega)) rfl rfl rfl ?_
      | refine Jl.yd (Y.neqB rfl rfl rfl Try.underlying4) rfl rfl rfl ?_
      | refine Jl.yd (Y.cmp rfl rfl rfl rfl) rfl rfl rfl ?_
      | refine Jl.yd (Y.not rfl rfl) rfl rfl rfl ?_
      | refine Jl.yd (Y.arithN rfl rfl rfl rfl (by omega)) rfl rfl rfl ?_
      | refine Jl.yd (Y.arith64 rfl rfl rfl rfl) rfl rfl rfl ?_
      | refine Jl.yd (Y.lenS Try.underlying80 rfl rfl rfl) rfl rfl rfl ?_
      | refine Jl.yd (Y.idx rfl rfl rfl el80 (by omega) (by omega)) rfl rfl rfl ?_
      | refine Jl.yd (Y.loadV rfl rfl sc29 (by with_reducible (repeat (first | exact memH | refine memT ?_))) ((n + 1 : Nat) : Int) (by omega) (by omega) rfl hup') rfl rfl rfl ?_
      | refine Jl.callc (v := .int .i64 R_) rfl rfl rfl rfl rfl en76 rfl (fun w hW => hcl w (hW.fact (p := (fun W => (Kd.int .i64).C W Ax p.length p)) (by repeat (first | exact memH | refine memT ?_))) (hW.fact (p := (fun W => (Kd.int .i64).C W Ay q.length q)) (by repeat (first | exact memH | refine memT ?_))) (hW.fact (p := (fun W => Kd.C k51 W A0 l.length l)) (by repeat (first | exact memH | refine memT ?_))) (hW.fact (p := (fun W => Kd.C (Kd.int .i64) W A1 m.length m)) (by repeat (first | exact memH | refine memT ?_))) (hW.fact (p := (fun W => Cells W ⟨gj, 0, none⟩ [.slice A0 l.length c0])) (by repeat (first | exact memH | refine memT ?_))) (hW.fact (p := (fun W => Cells W ⟨gm, 0, none⟩ [.slice A1 m.length c1])) (by repeat (first | exact memH | refine memT ?_)))) ?_
      | refine Jl.yd (Y.cmpF rfl rfl rfl rfl hR) rfl rfl rfl ?_
      | refine Jl.splitG rfl rfl (fun h => ?_) (fun h => ?_))
    | (apply gateE; first
      | refine Jl.nil (Ej.go ?_ (fun _ _ h => h))
      | (refine Jl.nil (Ej.back (fun _ _ h => h) (by repeat (first | exact .refl | apply DropTo.tail)) ?_); repeat (first | exact trivial | refine ⟨rfl, ?_⟩)))
    | (apply gateC; first
      | refine Cj.block rfl ?_
      | refine Cj.condF rfl rfl (Cj.skip rfl (Ej.go ?_ (fun _ _ h => h)))
      | (refine Cj.condF rfl rfl (Cj.skip rfl (Ej.back (fun _ _ h => h) (by repeat (first | exact .refl | apply DropTo.tail)) ?_)); repeat (first | exact trivial | refine ⟨rfl, ?_⟩))
      | refine Cj.condF rfl rfl ?_
      | refine Cj.condT rfl rfl ?_
      | refine Cj.exit rfl (Ej.go ?_ (fun _ _ h => h))
      | refine Cj.cond rfl rfl (fun h => ?_) (fun h => ?_)
      | refine Cj.skip rfl (Ej.go ?_ (fun _ _ h => h))
      | (refine Cj.skip rfl (Ej.back (fun _ _ h => h) (by repeat (first | exact .refl | apply DropTo.tail)) ?_); repeat (first | exact trivial | refine ⟨rfl, ?_⟩))
      | refine Cj.seq rfl ?_
      | refine Cj.region rfl ?_))
      refine Jl.nil (Ej.cutP (ι := Nat) _ _ _ _ (fun _ _ h => h) (n + 1) ⟨by omega, by omega⟩ ⟨rfl, rfl, by show _ = some (nth vs (bxP l m xs (n + 1)) undef); rw [hb2, hvn]; rfl, rfl, trivial⟩ (by repeat (first | exact .nil | refine Pick.cons (by repeat (first | exact .z | apply OutAt.s)) ?_)) (fun r hr => by repeat (first | exact hr | refine List.mem_cons_of_mem _ ?_)))
  · repeat (first
    | (apply gateO; first
      | refine Jl.yd (Y.mv rfl rfl) rfl rfl rfl ?_
      | refine Jl.yd (Y.asg rfl rfl) rfl rfl rfl ?_
      | refine Jl.yd (Y.ext rfl rfl rfl) rfl rfl rfl ?_
      | refine Jl.yd (Y.pickT rfl rfl rfl) rfl rfl rfl ?_
      | refine Jl.yd (Y.pickF rfl rfl rfl) rfl rfl rfl ?_
      | refine Jl.off rfl rfl rfl ?_
      | refine Jl.yd (Y.cmpF rfl rfl rfl rfl (by omega)) rfl rfl rfl ?_
      | refine Jl.yd (Y.cmpT rfl rfl rfl rfl (by omega)) rfl rfl rfl ?_
      | refine Jl.yd (Y.neqB rfl rfl rfl Try.underlying4) rfl rfl rfl ?_
      | refine Jl.yd (Y.cmp rfl rfl rfl rfl) rfl rfl rfl ?_
      | refine Jl.yd (Y.not rfl rfl) rfl rfl rfl ?_
      | refine Jl.yd (Y.arithN rfl rfl rfl rfl (by omega)) rfl rfl rfl ?_
      | refine Jl.yd (Y.arith64 rfl rfl rfl rfl) rfl rfl rfl ?_
      | refine Jl.yd (Y.lenS Try.underlying80 rfl rfl rfl) rfl rfl rfl ?_
      | refine Jl.splitG rfl rfl (fun h => ?_) (fun h => ?_))
    | (apply gateE; first
      | refine Jl.nil (Ej.go ?_ (fun _ _ h => h))
      | (refine Jl.nil (Ej.back (fun _ _ h => h) (by repeat (first | exact .refl | apply DropTo.tail)) ?_); repeat (first | exact trivial | refine ⟨rfl, ?_⟩)))
    | (apply gateC; first
      | refine Cj.block rfl ?_
      | refine Cj.ret rfl (Ej.out1 (P := Try.prog) (fn := Try.f75) (R := Rr) (fun _ _ h => h) rfl rfl (fun w' hW => ⟨by rw [show xs.length - 1 = n by omega], hW.below⟩))
      | refine Cj.condF rfl rfl (Cj.skip rfl (Ej.go ?_ (fun _ _ h => h)))
      | (refine Cj.condF rfl rfl (Cj.skip rfl (Ej.back (fun _ _ h => h) (by repeat (first | exact .refl | apply DropTo.tail)) ?_)); repeat (first | exact trivial | refine ⟨rfl, ?_⟩))
      | refine Cj.condF rfl rfl ?_
      | refine Cj.condT rfl rfl ?_
      | refine Cj.exit rfl (Ej.go ?_ (fun _ _ h => h))
      | refine Cj.cond rfl rfl (fun h => ?_) (fun h => ?_)
      | refine Cj.skip rfl (Ej.go ?_ (fun _ _ h => h))
      | (refine Cj.skip rfl (Ej.back (fun _ _ h => h) (by repeat (first | exact .refl | apply DropTo.tail)) ?_); repeat (first | exact trivial | refine ⟨rfl, ?_⟩))
      | refine Cj.seq rfl ?_
      | refine Cj.region rfl ?_))
end Mn
theorem mkFn2 {P : Program} {N : Nat} {B : Base} {L : Sl} {its : List Go.Proofs.YtcgpibbbkdhpeaaW.SL.Item} {ps : List (World → Prop)} {o : Oper} {x y : Operand} {f : FuncId} {u v : Value} (hop : o.op = .makeFunc (.func f) #[] #[x, y]) (hx : ev L x = some u) (hy : ev L y = some v) : Yd P N B o (.func (.func f) #[] #[u, v]) L its ps := .mk <| fun a w hf hW => by
  unfold execOp; rw [hop]; simp [Instr.makeFunc, hf.ev hx, hf.ev hy]
theorem cells1 {w : World} {g T : Nat} {u : Value} (h : w.heap[g]? = some (.cells [u].toArray T (0, 0))) : Cells w ⟨g, 0, none⟩ [u] := by simpa using Box_cells h 0
namespace Mj
set_option maxHeartbeats 4000000 in
theorem calls (A0 : Option Addr) (c0 : Nat) (l : List S51) (A1 : Option Addr) (c1 : Nat) (m : List Int) (w : World) (hr0 : Kd.C k51 w A0 l.length l) (hc0 : l.length ≤ c0) (hr1 : Kd.C (Kd.int .i64) w A1 m.length m) (hc1 : m.length ≤ c1) (kj : Nat) (hj : impl_AreJobs.f kj l = some false) :
    Calls Try.prog 44 #[.slice A0 l.length c0, .slice A1 m.length c1] w fun e w' => ∃ v : Value, e = .returned (.tuple #[v, .bool false]) ∧ Kd.R (Kd.int .i64) 3 w' w.heap.size (fun _ => True) v [] ∧ Below w.heap.size w w' := by
  let Rr : Ending → World → Prop := fun e w' => ∃ v : Value, e = .returned (.tuple #[v, .bool false]) ∧ Kd.R (Kd.int .i64) 3 w' w.heap.size (fun _ => True) v [] ∧ Below w.heap.size w w'
  refine enterW (args := [.slice A0 l.length c0, .slice A1 m.length c1]) [(fun W => Kd.C k51 W A0 l.length l), (fun W => Kd.C (Kd.int .i64) W A1 m.length m)] (fun p hp W hb => by
    rcases List.mem_cons.1 hp with rfl | hp
    · exact Kd.C_below hr0 hb
    · rw [List.mem_singleton.1 hp]; exact Kd.C_below hr1 hb) Try.func44 rfl rfl ?_
  show Cj Try.prog _ _ _ (bodyPost Try.prog Try.f44 Rr) _ _ _
  repeat (first
    | (apply gateO; first
      | refine Jl.yd (Y.mv rfl rfl) rfl rfl rfl ?_
      | refine Jl.yd (Y.asg rfl rfl) rfl rfl rfl ?_
      | refine Jl.yd (Y.ext rfl rfl rfl) rfl rfl rfl ?_
      | refine Jl.yd (Y.pickT rfl rfl rfl) rfl rfl rfl ?_
      | refine Jl.yd (Y.pickF rfl rfl rfl) rfl rfl rfl ?_
      | refine Jl.off rfl rfl rfl ?_
      | refine Jl.yd (Y.cmpF rfl rfl rfl rfl (by omega)) rfl rfl rfl ?_
      | refine Jl.yd (Y.cmpT rfl rfl rfl rfl (by omega)) rfl rfl rfl ?_
      | refine Jl.yd (Y.neqB rfl rfl rfl Try.underlying4) rfl rfl rfl ?_
      | refine Jl.yd (Y.cmp rfl rfl rfl rfl) rfl rfl rfl ?_
      | refine Jl.yd (Y.not rfl rfl) rfl rfl rfl ?_
      | refine Jl.yd (Y.arithN rfl rfl rfl rfl (by omega)) rfl rfl rfl ?_
      | refine Jl.yd (Y.arith64 rfl rfl rfl rfl) rfl rfl rfl ?_
      | refine Jl.yd (Y.load1 rfl rfl sc25 (by repeat (first | exact .head _ | refine .tail _ ?_)) (by rfl)) rfl rfl rfl ?_
      | refine Jl.yd (Y.load1 rfl rfl sc29 (by repeat (first | exact .head _ | refine .tail _ ?_)) (by rfl)) rfl rfl rfl ?_
      | refine Jl.yd (Y.lenS Try.underlying25 rfl rfl rfl) rfl rfl rfl ?_
      | refine Jl.yd (Y.lenS Try.underlying29 rfl rfl rfl) rfl rfl rfl ?_
      | refine Jl.yd (Y.lenS Try.underlying80 rfl rfl rfl) rfl rfl rfl ?_
      | refine Jl.box (zs := [.slice A0 l.length c0]) rfl rfl rfl rfl rfl (by rfl) (fun gj => ?_)
      | refine Jl.box (zs := [.slice A1 m.length c1]) rfl rfl rfl rfl rfl (by rfl) (fun gm => ?_)
      | refine Jl.yd (Y.load1 rfl rfl sc25 (by repeat (first | exact .head _ | refine .tail _ ?_)) (by rfl)) rfl rfl rfl ?_
      | refine Jl.yd (Y.load1 rfl rfl sc29 (by repeat (first | exact .head _ | refine .tail _ ?_)) (by rfl)) rfl rfl rfl ?_
      | refine Jl.call1 (v := .bool false) rfl rfl rfl rfl en17 rfl (fun w hW => by with_reducible exact impl_AreJobs.calls kj A0 c0 l false w (hW.fact (p := (fun W => Kd.C k51 W A0 l.length l)) (by repeat (first | exact memH | refine memT ?_))) hc0 hj) ?_
      | refine Jl.splitG rfl rfl (fun h => ?_) (fun h => ?_))
    | (apply gateE; first
      | refine Jl.nil (Ej.go ?_ (fun _ _ h => h))
      | (refine Jl.nil (Ej.back (fun _ _ h => h) (by repeat (first | exact .refl | apply DropTo.tail)) ?_); repeat (first | exact trivial | refine ⟨rfl, ?_⟩)))
    | (apply gateC; first
      | refine Cj.block rfl ?_
      | refine Cj.ret rfl (Ej.out2 (P := Try.prog) (fn := Try.f44) (R := Rr) (fun _ _ h => h) rfl rfl rfl (fun w' hW => ?_))
      | refine Cj.condF rfl rfl (Cj.skip rfl (Ej.go ?_ (fun _ _ h => h)))
      | (refine Cj.condF rfl rfl (Cj.skip rfl (Ej.back (fun _ _ h => h) (by repeat (first | exact .refl | apply DropTo.tail)) ?_)); repeat (first | exact trivial | refine ⟨rfl, ?_⟩))
      | refine Cj.condF rfl rfl ?_
      | refine Cj.condT rfl rfl ?_
      | refine Cj.exit rfl (Ej.go ?_ (fun _ _ h => h))
      | refine Cj.cond rfl rfl (fun h => ?_) (fun h => ?_)
      | refine Cj.skip rfl (Ej.go ?_ (fun _ _ h => h))
      | (refine Cj.skip rfl (Ej.back (fun _ _ h => h) (by repeat (first | exact .refl | apply DropTo.tail)) ?_); repeat (first | exact trivial | refine ⟨rfl, ?_⟩))
      | refine Cj.seq rfl ?_
      | refine Cj.region rfl ?_))
  exact ⟨_, rfl, Kd.R_nil _ _ _ _ _, hW.below⟩
end Mj
namespace Ml
set_option maxHeartbeats 4000000 in
theorem calls (A0 : Option Addr) (c0 : Nat) (l : List S51) (A1 : Option Addr) (c1 : Nat) (m : List Int) (w : World) (hr0 : Kd.C k51 w A0 l.length l) (hc0 : l.length ≤ c0) (hr1 : Kd.C (Kd.int .i64) w A1 m.length m) (hc1 : m.length ≤ c1) (kj : Nat) (hj : impl_AreJobs.f kj l = some true) (hl : impl_areJobLooms.f m = some false) :
    Calls Try.prog 44 #[.slice A0 l.length c0, .slice A1 m.length c1] w fun e w' => ∃ v : Value, e = .returned (.tuple #[v, .bool false]) ∧ Kd.R (Kd.int .i64) 3 w' w.heap.size (fun _ => True) v [] ∧ Below w.heap.size w w' := by
  let Rr : Ending → World → Prop := fun e w' => ∃ v : Value, e = .returned (.tuple #[v, .bool false]) ∧ Kd.R (Kd.int .i64) 3 w' w.heap.size (fun _ => True) v [] ∧ Below w.heap.size w w'
  refine enterW (args := [.slice A0 l.length c0, .slice A1 m.length c1]) [(fun W => Kd.C k51 W A0 l.length l), (fun W => Kd.C (Kd.int .i64) W A1 m.length m)] (fun p hp W hb => by
    rcases List.mem_cons.1 hp with rfl | hp
    · exact Kd.C_below hr0 hb
    · rw [List.mem_singleton.1 hp]; exact Kd.C_below hr1 hb) Try.func44 rfl rfl ?_
  show Cj Try.prog _ _ _ (bodyPost Try.prog Try.f44 Rr) _ _ _
  repeat (first
    | (apply gateO; first
      | refine Jl.yd (Y.mv rfl rfl) rfl rfl rfl ?_
      | refine Jl.yd (Y.asg rfl rfl) rfl rfl rfl ?_
      | refine Jl.yd (Y.ext rfl rfl rfl) rfl rfl rfl ?_
      | refine Jl.yd (Y.pickT rfl rfl rfl) rfl rfl rfl ?_
      | refine Jl.yd (Y.pickF rfl rfl rfl) rfl rfl rfl ?_
      | refine Jl.off rfl rfl rfl ?_
      | refine Jl.yd (Y.cmpF rfl rfl rfl rfl (by omega)) rfl rfl rfl ?_
      | refine Jl.yd (Y.cmpT rfl rfl rfl rfl (by omega)) rfl rfl rfl ?_
      | refine Jl.yd (Y.neqB rfl rfl rfl Try.underlying4) rfl rfl rfl ?_
      | refine Jl.yd (Y.cmp rfl rfl rfl rfl) rfl rfl rfl ?_
      | refine Jl.yd (Y.not rfl rfl) rfl rfl rfl ?_
      | refine Jl.yd (Y.arithN rfl rfl rfl rfl (by omega)) rfl rfl rfl ?_
      | refine Jl.yd (Y.arith64 rfl rfl rfl rfl) rfl rfl rfl ?_
      | refine Jl.yd (Y.load1 rfl rfl sc25 (by repeat (first | exact .head _ | refine .tail _ ?_)) (by rfl)) rfl rfl rfl ?_
      | refine Jl.yd (Y.load1 rfl rfl sc29 (by repeat (first | exact .head _ | refine .tail _ ?_)) (by rfl)) rfl rfl rfl ?_
      | refine Jl.yd (Y.lenS Try.underlying25 rfl rfl rfl) rfl rfl rfl ?_
      | refine Jl.yd (Y.lenS Try.underlying29 rfl rfl rfl) rfl rfl rfl ?_
      | refine Jl.yd (Y.lenS Try.underlying80 rfl rfl rfl) rfl rfl rfl ?_
      | refine Jl.box (zs := [.slice A0 l.length c0]) rfl rfl rfl rfl rfl (by rfl) (fun gj => ?_)
      | refine Jl.box (zs := [.slice A1 m.length c1]) rfl rfl rfl rfl rfl (by rfl) (fun gm => ?_)
      | refine Jl.yd (Y.load1 rfl rfl sc25 (by repeat (first | exact .head _ | refine .tail _ ?_)) (by rfl)) rfl rfl rfl ?_
      | refine Jl.yd (Y.load1 rfl rfl sc29 (by repeat (first | exact .head _ | refine .tail _ ?_)) (by rfl)) rfl rfl rfl ?_
      | refine Jl.call1 (v := .bool true) rfl rfl rfl rfl en17 rfl (fun w hW => by with_reducible exact impl_AreJobs.calls kj A0 c0 l true w (hW.fact (p := (fun W => Kd.C k51 W A0 l.length l)) (by repeat (first | exact memH | refine memT ?_))) hc0 hj) ?_
      | refine Jl.call1 (v := .bool false) rfl rfl rfl rfl en56 rfl (fun w hW => by with_reducible exact impl_areJobLooms.calls A1 c1 m false w (hW.fact (p := (fun W => Kd.C (Kd.int .i64) W A1 m.length m)) (by repeat (first | exact memH | refine memT ?_))) hc1 hl) ?_
      | refine Jl.splitG rfl rfl (fun h => ?_) (fun h => ?_))
    | (apply gateE; first
      | refine Jl.nil (Ej.go ?_ (fun _ _ h => h))
      | (refine Jl.nil (Ej.back (fun _ _ h => h) (by repeat (first | exact .refl | apply DropTo.tail)) ?_); repeat (first | exact trivial | refine ⟨rfl, ?_⟩)))
    | (apply gateC; first
      | refine Cj.block rfl ?_
      | refine Cj.ret rfl (Ej.out2 (P := Try.prog) (fn := Try.f44) (R := Rr) (fun _ _ h => h) rfl rfl rfl (fun w' hW => ?_))
      | refine Cj.condF rfl rfl (Cj.skip rfl (Ej.go ?_ (fun _ _ h => h)))
      | (refine Cj.condF rfl rfl (Cj.skip rfl (Ej.back (fun _ _ h => h) (by repeat (first | exact .refl | apply DropTo.tail)) ?_)); repeat (first | exact trivial | refine ⟨rfl, ?_⟩))
      | refine Cj.condF rfl rfl ?_
      | refine Cj.condT rfl rfl ?_
      | refine Cj.exit rfl (Ej.go ?_ (fun _ _ h => h))
      | refine Cj.cond rfl rfl (fun h => ?_) (fun h => ?_)
      | refine Cj.skip rfl (Ej.go ?_ (fun _ _ h => h))
      | (refine Cj.skip rfl (Ej.back (fun _ _ h => h) (by repeat (first | exact .refl | apply DropTo.tail)) ?_); repeat (first | exact trivial | refine ⟨rfl, ?_⟩))
      | refine Cj.seq rfl ?_
      | refine Cj.region rfl ?_))
  exact ⟨_, rfl, Kd.R_nil _ _ _ _ _, hW.below⟩
end Ml
namespace Me
set_option maxHeartbeats 4000000 in
theorem calls (A0 : Option Addr) (c0 : Nat) (l : List S51) (A1 : Option Addr) (c1 : Nat) (m : List Int) (w : World) (hr0 : Kd.C k51 w A0 l.length l) (hc0 : l.length ≤ c0) (hr1 : Kd.C (Kd.int .i64) w A1 m.length m) (hc1 : m.length ≤ c1) (kj : Nat) (hj : impl_AreJobs.f kj l = some true) (hl : impl_areJobLooms.f m = some true) (hl6 : l.length ≤ 6) (hm3 : m.length ≤ 3) (hx0 : (plansTo l m l.length).length = 0) :
    Calls Try.prog 44 #[.slice A0 l.length c0, .slice A1 m.length c1] w fun e w' => ∃ v : Value, e = .returned (.tuple #[v, .bool false]) ∧ Kd.R (Kd.int .i64) 3 w' w.heap.size (fun _ => True) v [] ∧ Below w.heap.size w w' := by
  let Rr : Ending → World → Prop := fun e w' => ∃ v : Value, e = .returned (.tuple #[v, .bool false]) ∧ Kd.R (Kd.int .i64) 3 w' w.heap.size (fun _ => True) v [] ∧ Below w.heap.size w w'
  refine enterW (args := [.slice A0 l.length c0, .slice A1 m.length c1]) [(fun W => Kd.C k51 W A0 l.length l), (fun W => Kd.C (Kd.int .i64) W A1 m.length m)] (fun p hp W hb => by
    rcases List.mem_cons.1 hp with rfl | hp
    · exact Kd.C_below hr0 hb
    · rw [List.mem_singleton.1 hp]; exact Kd.C_below hr1 hb) Try.func44 rfl rfl ?_
  show Cj Try.prog _ _ _ (bodyPost Try.prog Try.f44 Rr) _ _ _
  repeat (first
    | (apply gateO; first
      | refine Jl.yd (Y.mv rfl rfl) rfl rfl rfl ?_
      | refine Jl.yd (Y.asg rfl rfl) rfl rfl rfl ?_
      | refine Jl.yd (Y.ext rfl rfl rfl) rfl rfl rfl ?_
      | refine Jl.yd (Y.pickT rfl rfl rfl) rfl rfl rfl ?_
      | refine Jl.yd (Y.pickF rfl rfl rfl) rfl rfl rfl ?_
      | refine Jl.off rfl rfl rfl ?_
      | refine Jl.yd (Y.cmpF rfl rfl rfl rfl (by omega)) rfl rfl rfl ?_
      | refine Jl.yd (Y.cmpT rfl rfl rfl rfl (by omega)) rfl rfl rfl ?_
      | refine Jl.yd (Y.neqB rfl rfl rfl Try.underlying4) rfl rfl rfl ?_
      | refine Jl.yd (Y.cmp rfl rfl rfl rfl) rfl rfl rfl ?_
      | refine Jl.yd (Y.not rfl rfl) rfl rfl rfl ?_
      | refine Jl.yd (Y.arithN rfl rfl rfl rfl (by omega)) rfl rfl rfl ?_
      | refine Jl.yd (Y.arith64 rfl rfl rfl rfl) rfl rfl rfl ?_
      | refine Jl.yd (Y.load1 rfl rfl sc25 (by repeat (first | exact .head _ | refine .tail _ ?_)) (by rfl)) rfl rfl rfl ?_
      | refine Jl.yd (Y.load1 rfl rfl sc29 (by repeat (first | exact .head _ | refine .tail _ ?_)) (by rfl)) rfl rfl rfl ?_
      | refine Jl.yd (Y.lenS Try.underlying25 rfl rfl rfl) rfl rfl rfl ?_
      | refine Jl.yd (Y.lenS Try.underlying29 rfl rfl rfl) rfl rfl rfl ?_
      | refine Jl.yd (Y.lenS Try.underlying80 rfl rfl rfl) rfl rfl rfl ?_
      | refine Jl.box (zs := [.slice A0 l.length c0]) rfl rfl rfl rfl rfl (by rfl) (fun gj => ?_)
      | refine Jl.box (zs := [.slice A1 m.length c1]) rfl rfl rfl rfl rfl (by rfl) (fun gm => ?_)
      | refine Jl.yd (Y.load1 rfl rfl sc25 (by repeat (first | exact .head _ | refine .tail _ ?_)) (by rfl)) rfl rfl rfl ?_
      | refine Jl.yd (Y.load1 rfl rfl sc29 (by repeat (first | exact .head _ | refine .tail _ ?_)) (by rfl)) rfl rfl rfl ?_
      | refine Jl.call1 (v := .bool true) rfl rfl rfl rfl en17 rfl (fun w hW => by with_reducible exact impl_AreJobs.calls kj A0 c0 l true w (hW.fact (p := (fun W => Kd.C k51 W A0 l.length l)) (by repeat (first | exact memH | refine memT ?_))) hc0 hj) ?_
      | refine Jl.call1 (v := .bool true) rfl rfl rfl rfl en56 rfl (fun w hW => by with_reducible exact impl_areJobLooms.calls A1 c1 m true w (hW.fact (p := (fun W => Kd.C (Kd.int .i64) W A1 m.length m)) (by repeat (first | exact memH | refine memT ?_))) hc1 hl) ?_
      | refine Jl.callGV (xs := plansTo l m l.length) (eS := 29) (eI := 3) (fun v => v) rfl rfl rfl rfl en74 rfl (fun w1 hW => by with_reducible exact Pl.calls A0 c0 l A1 c1 m w1 (hW.fact (p := (fun W => Kd.C k51 W A0 l.length l)) (by repeat (first | exact memH | refine memT ?_))) hc0 (hW.fact (p := (fun W => Kd.C (Kd.int .i64) W A1 m.length m)) (by repeat (first | exact memH | refine memT ?_))) hc1 hl6 hm3) (fun A c vs hvl hvc => ?_)
      | refine Jl.yd (Y.cmpT rfl rfl rfl rfl (by omega)) rfl rfl rfl ?_
      | refine Jl.splitG rfl rfl (fun h => ?_) (fun h => ?_))
    | (apply gateE; first
      | refine Jl.nil (Ej.go ?_ (fun _ _ h => h))
      | (refine Jl.nil (Ej.back (fun _ _ h => h) (by repeat (first | exact .refl | apply DropTo.tail)) ?_); repeat (first | exact trivial | refine ⟨rfl, ?_⟩)))
    | (apply gateC; first
      | refine Cj.block rfl ?_
      | refine Cj.ret rfl (Ej.out2 (P := Try.prog) (fn := Try.f44) (R := Rr) (fun _ _ h => h) rfl rfl rfl (fun w' hW => ?_))
      | refine Cj.condF rfl rfl (Cj.skip rfl (Ej.go ?_ (fun _ _ h => h)))
      | (refine Cj.condF rfl rfl (Cj.skip rfl (Ej.back (fun _ _ h => h) (by repeat (first | exact .refl | apply DropTo.tail)) ?_)); repeat (first | exact trivial | refine ⟨rfl, ?_⟩))
      | refine Cj.condF rfl rfl ?_
      | refine Cj.condT rfl rfl ?_
      | refine Cj.exit rfl (Ej.go ?_ (fun _ _ h => h))
      | refine Cj.cond rfl rfl (fun h => ?_) (fun h => ?_)
      | refine Cj.skip rfl (Ej.go ?_ (fun _ _ h => h))
      | (refine Cj.skip rfl (Ej.back (fun _ _ h => h) (by repeat (first | exact .refl | apply DropTo.tail)) ?_); repeat (first | exact trivial | refine ⟨rfl, ?_⟩))
      | refine Cj.seq rfl ?_
      | refine Cj.region rfl ?_))
  exact ⟨_, rfl, Kd.R_nil _ _ _ _ _, hW.below⟩
end Me
namespace My
set_option maxHeartbeats 4000000 in
theorem calls (A0 : Option Addr) (c0 : Nat) (l : List S51) (A1 : Option Addr) (c1 : Nat) (m : List Int) (w : World) (hr0 : Kd.C k51 w A0 l.length l) (hc0 : l.length ≤ c0) (hr1 : Kd.C (Kd.int .i64) w A1 m.length m) (hc1 : m.length ≤ c1) (kj : Nat) (hj : impl_AreJobs.f kj l = some true) (hl : impl_areJobLooms.f m = some true) (hl6 : l.length ≤ 6) (hm3 : m.length ≤ 3) (hx0 : 0 < (plansTo l m l.length).length) (hx1 : (plansTo l m l.length).length ≤ 1048576) (hev : ∀ p, p ∈ plansTo l m l.length → EvP l m p) :
    Calls Try.prog 44 #[.slice A0 l.length c0, .slice A1 m.length c1] w fun e w' => ∃ v : Value, e = .returned (.tuple #[v, .bool true]) ∧ Kd.R (Kd.int .i64) 3 w' w.heap.size (fun _ => True) v (bestP l m).1 ∧ Below w.heap.size w w' := by
  let Rr : Ending → World → Prop := fun e w' => ∃ v : Value, e = .returned (.tuple #[v, .bool true]) ∧ Kd.R (Kd.int .i64) 3 w' w.heap.size (fun _ => True) v (bestP l m).1 ∧ Below w.heap.size w w'
  refine enterW (args := [.slice A0 l.length c0, .slice A1 m.length c1]) [(fun W => Kd.C k51 W A0 l.length l), (fun W => Kd.C (Kd.int .i64) W A1 m.length m)] (fun p hp W hb => by
    rcases List.mem_cons.1 hp with rfl | hp
    · exact Kd.C_below hr0 hb
    · rw [List.mem_singleton.1 hp]; exact Kd.C_below hr1 hb) Try.func44 rfl rfl ?_
  show Cj Try.prog _ _ _ (bodyPost Try.prog Try.f44 Rr) _ _ _
  repeat (first
    | (apply gateO; first
      | refine Jl.yd (Y.mv rfl rfl) rfl rfl rfl ?_
      | refine Jl.yd (Y.asg rfl rfl) rfl rfl rfl ?_
      | refine Jl.yd (Y.ext rfl rfl rfl) rfl rfl rfl ?_
      | refine Jl.yd (Y.pickT rfl rfl rfl) rfl rfl rfl ?_
      | refine Jl.yd (Y.pickF rfl rfl rfl) rfl rfl rfl ?_
      | refine Jl.off rfl rfl rfl ?_
      | refine Jl.yd (Y.cmpF rfl rfl rfl rfl (by omega)) rfl rfl rfl ?_
      | refine Jl.yd (Y.cmpT rfl rfl rfl rfl (by omega)) rfl rfl rfl ?_
      | refine Jl.yd (Y.neqB rfl rfl rfl Try.underlying4) rfl rfl rfl ?_
      | refine Jl.yd (Y.cmp rfl rfl rfl rfl) rfl rfl rfl ?_
      | refine Jl.yd (Y.not rfl rfl) rfl rfl rfl ?_
      | refine Jl.yd (Y.arithN rfl rfl rfl rfl (by omega)) rfl rfl rfl ?_
      | refine Jl.yd (Y.arith64 rfl rfl rfl rfl) rfl rfl rfl ?_
      | refine Jl.yd (Y.load1 rfl rfl sc25 (by repeat (first | exact .head _ | refine .tail _ ?_)) (by rfl)) rfl rfl rfl ?_
      | refine Jl.yd (Y.load1 rfl rfl sc29 (by repeat (first | exact .head _ | refine .tail _ ?_)) (by rfl)) rfl rfl rfl ?_
      | refine Jl.yd (Y.lenS Try.underlying25 rfl rfl rfl) rfl rfl rfl ?_
      | refine Jl.yd (Y.lenS Try.underlying29 rfl rfl rfl) rfl rfl rfl ?_
      | refine Jl.yd (Y.lenS Try.underlying80 rfl rfl rfl) rfl rfl rfl ?_
      | refine Jl.box (zs := [.slice A0 l.length c0]) rfl rfl rfl rfl rfl (by rfl) (fun gj => ?_)
      | refine Jl.box (zs := [.slice A1 m.length c1]) rfl rfl rfl rfl rfl (by rfl) (fun gm => ?_)
      | refine Jl.yd (Y.load1 rfl rfl sc25 (by repeat (first | exact .head _ | refine .tail _ ?_)) (by rfl)) rfl rfl rfl ?_
      | refine Jl.yd (Y.load1 rfl rfl sc29 (by repeat (first | exact .head _ | refine .tail _ ?_)) (by rfl)) rfl rfl rfl ?_
      | refine Jl.call1 (v := .bool true) rfl rfl rfl rfl en17 rfl (fun w hW => by with_reducible exact impl_AreJobs.calls kj A0 c0 l true w (hW.fact (p := (fun W => Kd.C k51 W A0 l.length l)) (by repeat (first | exact memH | refine memT ?_))) hc0 hj) ?_
      | refine Jl.call1 (v := .bool true) rfl rfl rfl rfl en56 rfl (fun w hW => by with_reducible exact impl_areJobLooms.calls A1 c1 m true w (hW.fact (p := (fun W => Kd.C (Kd.int .i64) W A1 m.length m)) (by repeat (first | exact memH | refine memT ?_))) hc1 hl) ?_
      | refine Jl.callGV (xs := plansTo l m l.length) (eS := 29) (eI := 3) (fun v => v) rfl rfl rfl rfl en74 rfl (fun w1 hW => by with_reducible exact Pl.calls A0 c0 l A1 c1 m w1 (hW.fact (p := (fun W => Kd.C k51 W A0 l.length l)) (by repeat (first | exact memH | refine memT ?_))) hc0 (hW.fact (p := (fun W => Kd.C (Kd.int .i64) W A1 m.length m)) (by repeat (first | exact memH | refine memT ?_))) hc1 hl6 hm3) (fun A c vs hvl hvc => ?_)
      | refine Jl.yd (Y.cmpF rfl rfl rfl rfl (by omega)) rfl rfl rfl ?_
      | refine Jl.splitG rfl rfl (fun h => ?_) (fun h => ?_))
    | (apply gateE; first
      | refine Jl.nil (Ej.go ?_ (fun _ _ h => h))
      | (refine Jl.nil (Ej.back (fun _ _ h => h) (by repeat (first | exact .refl | apply DropTo.tail)) ?_); repeat (first | exact trivial | refine ⟨rfl, ?_⟩)))
    | (apply gateC; first
      | refine Cj.block rfl ?_
      | refine Cj.condF rfl rfl (Cj.skip rfl (Ej.go ?_ (fun _ _ h => h)))
      | (refine Cj.condF rfl rfl (Cj.skip rfl (Ej.back (fun _ _ h => h) (by repeat (first | exact .refl | apply DropTo.tail)) ?_)); repeat (first | exact trivial | refine ⟨rfl, ?_⟩))
      | refine Cj.condF rfl rfl ?_
      | refine Cj.condT rfl rfl ?_
      | refine Cj.exit rfl (Ej.go ?_ (fun _ _ h => h))
      | refine Cj.cond rfl rfl (fun h => ?_) (fun h => ?_)
      | refine Cj.skip rfl (Ej.go ?_ (fun _ _ h => h))
      | (refine Cj.skip rfl (Ej.back (fun _ _ h => h) (by repeat (first | exact .refl | apply DropTo.tail)) ?_); repeat (first | exact trivial | refine ⟨rfl, ?_⟩))
      | refine Cj.seq rfl ?_
      | refine Cj.region rfl ?_))
  have hne : plansTo l m l.length ≠ [] := fun h => by rw [h] at hx0; simp at hx0
  refine Jl.ws (ι := Addr) (fun ad => A = some ad) (fun _ => [.box gm 29 [.slice A1 m.length c1], .box gj 25 [.slice A0 l.length c0]]) (fun ad => [GV 29 3 w.heap.size (.slice A vs.length c) vs (plansTo l m l.length), (fun W => Kd.C k51 W A0 l.length l), (fun W => Kd.C (Kd.int .i64) W A1 m.length m)]) (fun w' hW => by
    have hG : GV 29 3 w.heap.size (.slice A vs.length c) vs (plansTo l m l.length) w' := hW.fact (by repeat (first | exact memH | refine memT ?_))
    obtain ⟨ad, e, _⟩ := hG.reads.2.2.2.2 (by simpa using by omega)
    exact ⟨ad, e, hW⟩) (fun ad hA => ?_)
  subst hA
  repeat (first
    | (apply gateO; first
      | refine Jl.yd (Y.mv rfl rfl) rfl rfl rfl ?_
      | refine Jl.yd (Y.asg rfl rfl) rfl rfl rfl ?_
      | refine Jl.yd (Y.ext rfl rfl rfl) rfl rfl rfl ?_
      | refine Jl.yd (Y.pickT rfl rfl rfl) rfl rfl rfl ?_
      | refine Jl.yd (Y.pickF rfl rfl rfl) rfl rfl rfl ?_
      | refine Jl.off rfl rfl rfl ?_
      | refine Jl.yd (Y.cmpF rfl rfl rfl rfl (by omega)) rfl rfl rfl ?_
      | refine Jl.yd (Y.cmpT rfl rfl rfl rfl (by omega)) rfl rfl rfl ?_
      | refine Jl.yd (Y.neqB rfl rfl rfl Try.underlying4) rfl rfl rfl ?_
      | refine Jl.yd (Y.cmp rfl rfl rfl rfl) rfl rfl rfl ?_
      | refine Jl.yd (Y.not rfl rfl) rfl rfl rfl ?_
      | refine Jl.yd (Y.arithN rfl rfl rfl rfl (by omega)) rfl rfl rfl ?_
      | refine Jl.yd (Y.arith64 rfl rfl rfl rfl) rfl rfl rfl ?_
      | refine Jl.yd (Y.load1 rfl rfl sc25 (by repeat (first | exact .head _ | refine .tail _ ?_)) (by rfl)) rfl rfl rfl ?_
      | refine Jl.yd (Y.load1 rfl rfl sc29 (by repeat (first | exact .head _ | refine .tail _ ?_)) (by rfl)) rfl rfl rfl ?_
      | refine Jl.yd (Y.lenS Try.underlying25 rfl rfl rfl) rfl rfl rfl ?_
      | refine Jl.yd (Y.lenS Try.underlying29 rfl rfl rfl) rfl rfl rfl ?_
      | refine Jl.yd (Y.lenS Try.underlying80 rfl rfl rfl) rfl rfl rfl ?_
      | refine Jl.yd (mkFn2 rfl rfl rfl) rfl rfl rfl ?_
      | refine Jl.call1 (v := nth vs (bxP l m (plansTo l m l.length) ((plansTo l m l.length).length - 1)) undef) rfl rfl rfl rfl en75 rfl (fun w1 hW => by with_reducible exact Mn.calls A0 c0 l A1 c1 m gj gm ad c vs (plansTo l m l.length) w.heap.size w1 (hW.fact (p := (fun W => Kd.C k51 W A0 l.length l)) (by repeat (first | exact memH | refine memT ?_))) hc0 (hW.fact (p := (fun W => Kd.C (Kd.int .i64) W A1 m.length m)) (by repeat (first | exact memH | refine memT ?_))) hc1 (cells1 (Box_at (cs := [.slice A0 l.length c0]) hW (by repeat (first | exact memH | refine memT ?_)))) (cells1 (Box_at (cs := [.slice A1 m.length c1]) hW (by repeat (first | exact memH | refine memT ?_)))) (hW.fact (p := GV 29 3 w.heap.size (.slice (some ad) vs.length c) vs (plansTo l m l.length)) (by repeat (first | exact memH | refine memT ?_))) hx0 hx1 hev) ?_
      | refine Jl.splitG rfl rfl (fun h => ?_) (fun h => ?_))
    | (apply gateE; first
      | refine Jl.nil (Ej.go ?_ (fun _ _ h => h))
      | (refine Jl.nil (Ej.back (fun _ _ h => h) (by repeat (first | exact .refl | apply DropTo.tail)) ?_); repeat (first | exact trivial | refine ⟨rfl, ?_⟩)))
    | (apply gateC; first
      | refine Cj.block rfl ?_
      | refine Cj.ret rfl (Ej.out2 (P := Try.prog) (fn := Try.f44) (R := Rr) (fun _ _ h => h) rfl rfl rfl (fun w' hW => ?_))
      | refine Cj.condF rfl rfl (Cj.skip rfl (Ej.go ?_ (fun _ _ h => h)))
      | (refine Cj.condF rfl rfl (Cj.skip rfl (Ej.back (fun _ _ h => h) (by repeat (first | exact .refl | apply DropTo.tail)) ?_)); repeat (first | exact trivial | refine ⟨rfl, ?_⟩))
      | refine Cj.condF rfl rfl ?_
      | refine Cj.condT rfl rfl ?_
      | refine Cj.exit rfl (Ej.go ?_ (fun _ _ h => h))
      | refine Cj.cond rfl rfl (fun h => ?_) (fun h => ?_)
      | refine Cj.skip rfl (Ej.go ?_ (fun _ _ h => h))
      | (refine Cj.skip rfl (Ej.back (fun _ _ h => h) (by repeat (first | exact .refl | apply DropTo.tail)) ?_); repeat (first | exact trivial | refine ⟨rfl, ?_⟩))
      | refine Cj.seq rfl ?_
      | refine Cj.region rfl ?_))
  have hG : GV 29 3 w.heap.size (.slice (some ad) vs.length c) vs (plansTo l m l.length) w' := hW.fact (by repeat (first | exact memH | refine memT ?_))
  have hbl := bxP_le l m (plansTo l m l.length) ((plansTo l m l.length).length - 1)
  obtain ⟨u, hu⟩ : ∃ u, vs[bxP l m (plansTo l m l.length) ((plansTo l m l.length).length - 1)]? = some u := ⟨_, List.getElem?_eq_getElem (by omega)⟩
  obtain ⟨q, hq⟩ : ∃ q, (plansTo l m l.length)[bxP l m (plansTo l m l.length) ((plansTo l m l.length).length - 1)]? = some q := ⟨_, List.getElem?_eq_getElem (by omega)⟩
  have hun : nth vs (bxP l m (plansTo l m l.length) ((plansTo l m l.length).length - 1)) undef = u := by unfold nth; rw [List.getD_eq_getElem?_getD, hu]; rfl
  have hqn : (bestP l m).1 = q := by rw [← bxP_best l m hne]; unfold nth; rw [List.getD_eq_getElem?_getD, hq]; rfl
  have hR := hG.els.el _ q u hq hu
  refine ⟨u, by rw [hun], ?_, hW.below⟩
  rw [hqn]
  exact Kd.R_mono (Kd.R_raise (b := 0) (fun _ _ _ _ h => h) hR hR.1) (fun _ _ => trivial)
end My
/-- impl.BestLoomPlan. -/
theorem full (A0 : Option Addr) (c0 : Nat) (l : List S51) (A1 : Option Addr) (c1 : Nat) (m : List Int) (w : World) (hr0 : Kd.C k51 w A0 l.length l) (hc0 : l.length ≤ c0) (hr1 : Kd.C (Kd.int .i64) w A1 m.length m) (hc1 : m.length ≤ c1) (h0 : l.length ≤ 1048576) (h1 : m.length ≤ 1048576) :
    Calls Try.prog 44 #[.slice A0 l.length c0, .slice A1 m.length c1] w fun e w' => ∃ v : Value, e = .returned (.tuple #[v, .bool (if (goodJ l && goodL m) = true then bestP l m else ([], false)).2]) ∧ Kd.R (Kd.int .i64) 3 w' w.heap.size (fun _ => True) v (if (goodJ l && goodL m) = true then bestP l m else ([], false)).1 ∧ Below w.heap.size w w' := by
  obtain ⟨kj, hkj⟩ := (iJobs l h0).rounds
  have hkl := iLooms m
  cases hJ : goodJ l with
  | false =>
    rw [hJ] at hkj
    exact Mj.calls A0 c0 l A1 c1 m w hr0 hc0 hr1 hc1 kj hkj
  | true =>
    rw [hJ] at hkj
    cases hL : goodL m with
    | false =>
      rw [hL] at hkl
      exact Ml.calls A0 c0 l A1 c1 m w hr0 hc0 hr1 hc1 kj hkj hkl
    | true =>
      rw [hL] at hkl
      have hl6 : l.length ≤ 6 := by unfold goodJ at hJ; rw [Bool.and_eq_true] at hJ; exact of_decide_eq_true hJ.1
      have hm3 : m.length ≤ 3 := by unfold goodL at hL; rw [Bool.and_eq_true] at hL; exact (of_decide_eq_true hL.2).2
      have hpl := plansTo_len l m hm3 l.length
      have h36 : 3 ^ l.length ≤ 3 ^ 6 := Nat.pow_le_pow_right (by omega) (by omega)
      have h729 : 3 ^ 6 = 729 := by decide
      simp only [Bool.and_self, if_true]
      rcases Nat.eq_zero_or_pos (plansTo l m l.length).length with hz | hz
      · have e : bestP l m = ([], false) := by unfold bestP; rw [List.length_eq_zero_iff.1 hz]; rfl
        rw [e]
        exact Me.calls A0 c0 l A1 c1 m w hr0 hc0 hr1 hc1 kj hkj hkl hl6 hm3 hz
      · have e : (bestP l m).2 = true := bestP_some.2 (fun h => by rw [h] at hz; simp at hz)
        rw [e]
        exact My.calls A0 c0 l A1 c1 m w hr0 hc0 hr1 hc1 kj hkj hkl hl6 hm3 hz (by omega) (fun p hp => evP (partial_asked hJ hL (plansTo_sound l m _ p hp)))
end BP
end Go.Proofs.Ytcgpibbbkdhpeaa.WK

namespace Go.Proofs.Ytcgpibbbkdhpeaa.Q
open Go.RowKit Go.Proofs.YtcgpibbbkdhpeaaW.PrintWords Go.Proofs.YtcgpibbbkdhpeaaW.PrintLast Go.Proofs.YtcgpibbbkdhpeaaW.PrintMore
set_option linter.unusedVariables false
set_option linter.unusedSimpArgs false

/-! ### impl_BestLoomPlan: function 44 -/
def impl_BestLoomPlan.f (l0 : List (S51)) (l1 : List Int) : Option (List Int × Bool) := if l0.length ≤ 1048576 ∧ l1.length ≤ 1048576 then some (if (Go.Proofs.Ytcgpibbbkdhpeaa.M.goodJ l0 && Go.Proofs.Ytcgpibbbkdhpeaa.M.goodL l1) = true then Go.Proofs.Ytcgpibbbkdhpeaa.M.bestP l0 l1 else ([], false)) else none
theorem impl_BestLoomPlan.calls (A0 : Option Addr) (c0 : Nat) (l0 : List (S51)) (A1 : Option Addr) (c1 : Nat) (l1 : List Int) (r1 : List Int) (r2 : Bool) (w : World) (hr0 : Kd.C k51 w A0 l0.length l0) (hc0 : l0.length ≤ c0) (hr1 : Kd.C (Kd.int .i64) w A1 l1.length l1) (hc1 : l1.length ≤ c1) (h : impl_BestLoomPlan.f l0 l1 = some (r1, r2)) :
  Calls Try.prog 44 #[.slice A0 l0.length c0, .slice A1 l1.length c1] w fun e w' => ∃ v0_ : Value, e = .returned (.tuple #[v0_, .bool r2]) ∧ Kd.R (Kd.int .i64) 3 w' w.heap.size (fun _ => True) v0_ r1 ∧ Below w.heap.size w w' := by
 unfold impl_BestLoomPlan.f at h
 split at h
 ·rename_i hh
  have h1 := Go.Proofs.Ytcgpibbbkdhpeaa.WK.BP.full A0 c0 l0 A1 c1 l1 w hr0 hc0 hr1 hc1 hh.1 hh.2
  rw [Option.some.inj h] at h1
  exact h1
 ·cases h


end Go.Proofs.Ytcgpibbbkdhpeaa.Q

namespace Go.Proofs.Ytcgpibbbkdhpeaa.Q
open Go.RowKit Go.Proofs.YtcgpibbbkdhpeaaW.PrintWords Go.Proofs.YtcgpibbbkdhpeaaW.PrintLast Go.Proofs.YtcgpibbbkdhpeaaW.PrintMore
set_option linter.unusedVariables false
set_option linter.unusedSimpArgs false

/-! ### laws_FnExactBestLoomPlan: function 12 -/
mutual
def laws_FnExactBestLoomPlan.j0 : Nat → List (S57) → List Int → List Int → Bool → List (S51) → List Int → List Int → Bool → Bool → Option (Bool)
 | 0, _, _, _, _, _, _, _, _, _ => none
 | k + 1, x0, x1, x6, x7, x8, x9, x10, x11, x51 => if x51 = true then (some false) else ((laws_toLoomJobS.f k x0).bind fun t312 => ((laws_eqLoomJobS.f k x8 t312).bind fun t315 => (if t315 = true then ((laws_toIntS.f k x1).bind fun t316 => ((laws_eqIntS.f k x9 t316).bind fun t319 => (if t319 = true then ((laws_markLoomJobS.f k x8 1).bind fun bt320 => ((laws_markIntS.f k x9 bt320.1).bind fun bt322 => (if bt322.1 < 0 then (laws_FnExactBestLoomPlan.j1 k x0 x1 x6 x7 x10 true) else ((laws_eqIntS.f k x10 x6).bind fun t324 => (if t324 = true then (laws_FnExactBestLoomPlan.j1 k x0 x1 x6 x7 x10 (x11 != x7)) else (laws_FnExactBestLoomPlan.j1 k x0 x1 x6 x7 x10 true)))))) else (some false)))) else (some false))))
def laws_FnExactBestLoomPlan.j1 : Nat → List (S57) → List Int → List Int → Bool → List Int → Bool → Option (Bool)
 | 0, _, _, _, _, _, _ => none
 | k + 1, x0, x1, x6, x7, x10, x80 => if x80 = true then (some false) else ((laws_markIntS.f k x10 1).bind fun bt325 => ((laws_heldIntS.f k bt325.2 1).bind fun t327 => (if t327 < 0 then (some false) else (if t327 = bt325.1 then ((laws_toLoomJobS.f k x0).bind fun t328 => ((laws_toIntS.f k x1).bind fun t331 => ((impl_BestLoomPlan.f t328 t331).bind fun bt334 => ((laws_eqIntS.f k bt334.1 x6).bind fun t338 => (if t338 = true then (laws_FnExactBestLoomPlan.j2 k bt325.2 bt325.1 (bt334.2 != x7)) else (laws_FnExactBestLoomPlan.j2 k bt325.2 bt325.1 true)))))) else (some false)))))
def laws_FnExactBestLoomPlan.j2 : Nat → List Int → Int → Bool → Option (Bool)
 | 0, _, _, _ => none
 | k + 1, x10, x13, x108 => if x108 = true then (some false) else ((laws_heldIntS.f k x10 1).bind fun t339 => (if t339 < 0 then (some false) else (if t339 = x13 then (some true) else (some false))))
end
def laws_FnExactBestLoomPlan.f (k : Nat) (l0 : List (S57)) (l1 : List Int) : Option (Bool) := if (l1.length : Int) > 1048576 then (some true) else ((laws_szLoomJobS.f l0 1048576).bind fun t290 => (if t290 < 0 then (some true) else ((laws_toLoomJobS.f k l0).bind fun t291 => ((laws_toIntS.f k l1).bind fun t294 => ((spec_BestLoomPlan.f k t291 t294).bind fun bt297 => ((laws_toLoomJobS.f k l0).bind fun t301 => ((laws_toIntS.f k l1).bind fun t304 => ((impl_BestLoomPlan.f t301 t304).bind fun bt307 => ((laws_eqIntS.f k bt307.1 bt297.1).bind fun t311 => (if t311 = true then (laws_FnExactBestLoomPlan.j0 k l0 l1 bt297.1 bt297.2 t301 t304 bt307.1 bt307.2 (bt307.2 != bt297.2)) else (laws_FnExactBestLoomPlan.j0 k l0 l1 bt297.1 bt297.2 t301 t304 bt307.1 bt307.2 true)))))))))))
set_option maxHeartbeats 8000000 in
set_option maxRecDepth 100000 in
theorem laws_FnExactBestLoomPlan.calls (k : Nat) (A0 : Option Addr) (c0 : Nat) (l0 : List (S57)) (A1 : Option Addr) (c1 : Nat) (l1 : List Int) (r : Bool) (w : World) (hr0 : Kd.C k57 w A0 l0.length l0) (hc0 : l0.length ≤ c0) (hr1 : Kd.C (Kd.int .i64) w A1 l1.length l1) (hc1 : l1.length ≤ c1) (h : laws_FnExactBestLoomPlan.f k l0 l1 = some r) :
  Calls Try.prog 12 #[.slice A0 l0.length c0, .slice A1 l1.length c1] w fun e w' => e = .returned (.bool r) ∧ Below w.heap.size w w' := by
 have HR0 := Aside0.mk hr0
 have HC0 := Aside0.mk hc0
 clear hr0 hc0
 have HR1 := Aside0.mk hr1
 have HC1 := Aside0.mk hc1
 clear hr1 hc1
 have HB := Aside0.mk (Below.refl w.heap.size w)
 have H : (if (l1.length : Int) > 1048576 then (some true) else ((laws_szLoomJobS.f l0 1048576).bind fun t290 => (if t290 < 0 then (some true) else ((laws_toLoomJobS.f k l0).bind fun t291 => ((laws_toIntS.f k l1).bind fun t294 => ((spec_BestLoomPlan.f k t291 t294).bind fun bt297 => ((laws_toLoomJobS.f k l0).bind fun t301 => ((laws_toIntS.f k l1).bind fun t304 => ((impl_BestLoomPlan.f t301 t304).bind fun bt307 => ((laws_eqIntS.f k bt307.1 bt297.1).bind fun t311 => (if t311 = true then (laws_FnExactBestLoomPlan.j0 k l0 l1 bt297.1 bt297.2 t301 t304 bt307.1 bt307.2 (bt307.2 != bt297.2)) else (laws_FnExactBestLoomPlan.j0 k l0 l1 bt297.1 bt297.2 t301 t304 bt307.1 bt307.2 true)))))))))))) = some r := h
 clear h
 by_cases c3 : (l1.length : Int) > 1048576
 ·rw [if_pos c3] at H
  have c3b0 : decide (1048576 < (l1.length : Int)) = true := decide_eq_true c3
  have c3b1 : decide (1048576 < l1.length) = true := decide_eq_true (by omega)
  clear c3
  obtain rfl := Option.some.inj H
  go_enter Try.func12, Try.ntmps12
  go_wp2
  go_ret
  exact ⟨by first | rfl | (simp [errW_none, errW_some] <;> rfl) | (simp [*, errW_none, errW_some] <;> rfl) | (simp [wrap64]; done), by repeat (first | (with_reducible first | exact HB.out | apply below_alloc | apply pw_below_drewN | apply below_drew1) | exact HB.out)⟩
 ·rw [if_neg c3] at H
  have c3b0 : decide (1048576 < (l1.length : Int)) = false := decide_eq_false c3
  have c3b1 : decide (1048576 < l1.length) = false := decide_eq_false (by omega)
  clear c3
  replace H := Option.bind_eq_some_iff.mp H
  obtain ⟨t290, A40, H⟩ := H
  have A4 := Aside0.mk A40
  clear A40
  by_cases c5 : t290 < 0
  ·rw [if_pos c5] at H
   have c5b0 : decide (t290 < 0) = true := decide_eq_true c5
   clear c5
   obtain rfl := Option.some.inj H
   go_enter Try.func12, Try.ntmps12
   go_wp2_with (first | ((with_reducible refine gate_callee (f := 14) rfl ?_); refine goesL_ (some 22) rfl rfl Try.func14 (by kernel_rfl) rfl #[.slice A0 l0.length c0, .int .i64 1048576] rfl (by (try simp only [List.map_toArray, List.map_cons, List.map_nil]); first | done | rfl | (simp only [List.length_drop, List.length_take]; rfl)) ?_; (with_reducible refine (laws_szLoomJobS.calls _ _ l0 1048576 t290 _ ?side1 ?side2 A4.out).mono ?_); (case side1 => repeat (first | exact HR0.out | (with_reducible refine Kd.C_alloc ?_ _) | (with_reducible refine Kd.C_drewN ?_ _) | (with_reducible refine Kd.C_drew ?_))); (case side2 => exact HC0.out); rintro e w' ⟨rfl, ⟨nd, rfl⟩⟩; refine ⟨_, rfl, ?_⟩))
   go_ret
   exact ⟨by first | rfl | (simp [errW_none, errW_some] <;> rfl) | (simp [*, errW_none, errW_some] <;> rfl) | (simp [wrap64]; done), by repeat (first | (with_reducible first | exact HB.out | apply below_alloc | apply pw_below_drewN | apply below_drew1) | exact HB.out)⟩
  ·rw [if_neg c5] at H
   have c5b0 : decide (t290 < 0) = false := decide_eq_false c5
   clear c5
   replace H := Option.bind_eq_some_iff.mp H
   obtain ⟨t291, A60, H⟩ := H
   have A6 := Aside0.mk A60
   clear A60
   replace H := Option.bind_eq_some_iff.mp H
   obtain ⟨t294, A70, H⟩ := H
   have A7 := Aside0.mk A70
   clear A70
   replace H := Option.bind_eq_some_iff.mp H
   obtain ⟨⟨t297, t298⟩, A80, H⟩ := H
   have A8 := Aside0.mk A80
   clear A80
   replace H := Option.bind_eq_some_iff.mp H
   obtain ⟨t301, A90, H⟩ := H
   have A9 := Aside0.mk A90
   clear A90
   replace H := Option.bind_eq_some_iff.mp H
   obtain ⟨t304, A100, H⟩ := H
   have A10 := Aside0.mk A100
   clear A100
   replace H := Option.bind_eq_some_iff.mp H
   obtain ⟨⟨t307, t308⟩, A110, H⟩ := H
   have A11 := Aside0.mk A110
   clear A110
   have HC12 := Aside0.mk H
   clear H
   go_enter Try.func12, Try.ntmps12
   go_upto_region 11 with (first | ((with_reducible refine gate_callee (f := 14) rfl ?_); refine goesL_ (some 22) rfl rfl Try.func14 (by kernel_rfl) rfl #[.slice A0 l0.length c0, .int .i64 1048576] rfl (by (try simp only [List.map_toArray, List.map_cons, List.map_nil]); first | done | rfl | (simp only [List.length_drop, List.length_take]; rfl)) ?_; (with_reducible refine (laws_szLoomJobS.calls _ _ l0 1048576 t290 _ ?side1 ?side2 A4.out).mono ?_); (case side1 => repeat (first | exact HR0.out | (with_reducible refine Kd.C_alloc ?_ _) | (with_reducible refine Kd.C_drewN ?_ _) | (with_reducible refine Kd.C_drew ?_))); (case side2 => exact HC0.out); rintro e w' ⟨rfl, ⟨nd, rfl⟩⟩; refine ⟨_, rfl, ?_⟩) | ((with_reducible refine gate_callee (f := 16) rfl ?_); refine goesL_ (some 27) rfl rfl Try.func16 (by kernel_rfl) rfl #[.slice A0 l0.length c0] rfl (by (try simp only [List.map_toArray, List.map_cons, List.map_nil]); first | done | rfl | (simp only [List.length_drop, List.length_take]; rfl)) ?_; (with_reducible refine (laws_toLoomJobS.calls k _ _ l0 t291 _ ?side1 ?side2 A6.out).mono ?_); (case side1 => repeat (first | exact HR0.out | (with_reducible refine Kd.C_alloc ?_ _) | (with_reducible refine Kd.C_drewN ?_ _) | (with_reducible refine Kd.C_drew ?_))); (case side2 => exact HC0.out); rintro e w13 ⟨v292, rfl, ho0, hb⟩; refine ⟨_, rfl, ?_⟩; have n0_ := Aside0.mk (Kd.R_lower ho0 (below_size (by repeat (first | (with_reducible first | exact HB.out | apply below_alloc | apply pw_below_drewN | apply below_drew1) | exact HB.out)))); have n1_ := Aside0.mk (below_step (by repeat (first | (with_reducible first | exact HB.out | apply below_alloc | apply pw_below_drewN | apply below_drew1) | exact HB.out)) hb); clear HB; have HO293 := n0_; have HB := n1_; clear n0_ n1_; (try clear hb); (try clear hb2); (try clear hk); (try clear hi); (try clear ho0)) | ((with_reducible refine gate_callee (f := 20) rfl ?_); refine goesL_ (some 29) rfl rfl Try.func20 (by kernel_rfl) rfl #[.slice A1 l1.length c1] rfl (by (try simp only [List.map_toArray, List.map_cons, List.map_nil]); first | done | rfl | (simp only [List.length_drop, List.length_take]; rfl)) ?_; (with_reducible refine (laws_toIntS.calls k _ _ l1 t294 _ ?side1 ?side2 A7.out).mono ?_); (case side1 => repeat (first | exact (Kd.C_below HR1.out HB.out) | (with_reducible refine Kd.C_alloc ?_ _) | (with_reducible refine Kd.C_drewN ?_ _) | (with_reducible refine Kd.C_drew ?_))); (case side2 => exact HC1.out); rintro e w14 ⟨v295, rfl, ho0, hb⟩; refine ⟨_, rfl, ?_⟩; have n0_ := Aside0.mk (Kd.R_below (by (with_reducible repeat (first | apply Kd.R_alloc | apply Kd.R_drewN | apply Kd.R_drew)); exact HO293.out) hb); have n1_ := Aside0.mk (Kd.R_lower ho0 (below_size (by repeat (first | (with_reducible first | exact HB.out | apply below_alloc | apply pw_below_drewN | apply below_drew1) | exact HB.out)))); have n2_ := Aside0.mk (below_step (by repeat (first | (with_reducible first | exact HB.out | apply below_alloc | apply pw_below_drewN | apply below_drew1) | exact HB.out)) hb); clear HO293; clear HB; have HO293 := n0_; have HO296 := n1_; have HB := n2_; clear n0_ n1_ n2_; (try clear hb); (try clear hb2); (try clear hk); (try clear hi); (try clear ho0); obtain ⟨Ao15, co15, eo15⟩ := Kd.R_slice HO293.out; subst eo15; obtain ⟨Ao16, co16, eo16⟩ := Kd.R_slice HO296.out; subst eo16) | ((with_reducible refine gate_callee (f := 43) rfl ?_); refine goesL_ (some 30) rfl rfl Try.func43 (by kernel_rfl) rfl #[.slice Ao15 t291.length co15, .slice Ao16 t294.length co16] rfl (by (try simp only [List.map_toArray, List.map_cons, List.map_nil]); first | done | rfl | (simp only [List.length_drop, List.length_take]; rfl)) ?_; (with_reducible refine (spec_BestLoomPlan.calls k _ _ t291 _ _ t294 t297 t298 _ ?side1 ?side2 ?side3 ?side4 A8.out).mono ?_); (case side1 => repeat (first | exact (Kd.R_reads' HO293.out).2.2 | (with_reducible refine Kd.C_alloc ?_ _) | (with_reducible refine Kd.C_drewN ?_ _) | (with_reducible refine Kd.C_drew ?_))); (case side2 => exact (Kd.R_reads' HO293.out).2.1); (case side3 => repeat (first | exact (Kd.R_reads' HO296.out).2.2 | (with_reducible refine Kd.C_alloc ?_ _) | (with_reducible refine Kd.C_drewN ?_ _) | (with_reducible refine Kd.C_drew ?_))); (case side4 => exact (Kd.R_reads' HO296.out).2.1); rintro e w17 ⟨v299, rfl, ho0, hb⟩; refine ⟨_, rfl, ?_⟩; have n0_ := Aside0.mk (Kd.R_below (by (with_reducible repeat (first | apply Kd.R_alloc | apply Kd.R_drewN | apply Kd.R_drew)); exact HO293.out) hb); have n1_ := Aside0.mk (Kd.R_elder' (by (with_reducible repeat (first | apply Kd.R_alloc | apply Kd.R_drewN | apply Kd.R_drew)); exact HO296.out) (Kd.R_base ho0) hb); have n2_ := Aside0.mk (Kd.R_lower (Kd.R_new' ho0 (Kd.R_lt (by (with_reducible repeat (first | apply Kd.R_alloc | apply Kd.R_drewN | apply Kd.R_drew)); exact HO296.out))) (below_size (by repeat (first | (with_reducible first | exact HB.out | apply below_alloc | apply pw_below_drewN | apply below_drew1) | exact HB.out)))); have n3_ := Aside0.mk (below_step (by repeat (first | (with_reducible first | exact HB.out | apply below_alloc | apply pw_below_drewN | apply below_drew1) | exact HB.out)) hb); clear HO293; clear HO296; clear HB; have HO293 := n0_; have HO296 := n1_; have HO300 := n2_; have HB := n3_; clear n0_ n1_ n2_ n3_; (try clear hb); (try clear hb2); (try clear hk); (try clear hi); (try clear ho0)) | ((with_reducible refine gate_callee (f := 16) rfl ?_); refine goesL_ (some 34) rfl rfl Try.func16 (by kernel_rfl) rfl #[.slice A0 l0.length c0] rfl (by (try simp only [List.map_toArray, List.map_cons, List.map_nil]); first | done | rfl | (simp only [List.length_drop, List.length_take]; rfl)) ?_; (with_reducible refine (laws_toLoomJobS.calls k _ _ l0 t301 _ ?side1 ?side2 A9.out).mono ?_); (case side1 => repeat (first | exact (Kd.C_below HR0.out HB.out) | (with_reducible refine Kd.C_alloc ?_ _) | (with_reducible refine Kd.C_drewN ?_ _) | (with_reducible refine Kd.C_drew ?_))); (case side2 => exact HC0.out); rintro e w18 ⟨v302, rfl, ho0, hb⟩; refine ⟨_, rfl, ?_⟩; have n0_ := Aside0.mk (Kd.R_elder' (by (with_reducible repeat (first | apply Kd.R_alloc | apply Kd.R_drewN | apply Kd.R_drew)); exact HO293.out) (Kd.R_base ho0) hb); have n1_ := Aside0.mk (Kd.R_below (by (with_reducible repeat (first | apply Kd.R_alloc | apply Kd.R_drewN | apply Kd.R_drew)); exact HO296.out) hb); have n2_ := Aside0.mk (Kd.R_below (by (with_reducible repeat (first | apply Kd.R_alloc | apply Kd.R_drewN | apply Kd.R_drew)); exact HO300.out) hb); have n3_ := Aside0.mk (Kd.R_lower (Kd.R_new' ho0 (Kd.R_lt (by (with_reducible repeat (first | apply Kd.R_alloc | apply Kd.R_drewN | apply Kd.R_drew)); exact HO293.out))) (below_size (by repeat (first | (with_reducible first | exact HB.out | apply below_alloc | apply pw_below_drewN | apply below_drew1) | exact HB.out)))); have n4_ := Aside0.mk (below_step (by repeat (first | (with_reducible first | exact HB.out | apply below_alloc | apply pw_below_drewN | apply below_drew1) | exact HB.out)) hb); clear HO293; clear HO296; clear HO300; clear HB; have HO293 := n0_; have HO296 := n1_; have HO300 := n2_; have HO303 := n3_; have HB := n4_; clear n0_ n1_ n2_ n3_ n4_; (try clear hb); (try clear hb2); (try clear hk); (try clear hi); (try clear ho0)) | ((with_reducible refine gate_callee (f := 20) rfl ?_); refine goesL_ (some 36) rfl rfl Try.func20 (by kernel_rfl) rfl #[.slice A1 l1.length c1] rfl (by (try simp only [List.map_toArray, List.map_cons, List.map_nil]); first | done | rfl | (simp only [List.length_drop, List.length_take]; rfl)) ?_; (with_reducible refine (laws_toIntS.calls k _ _ l1 t304 _ ?side1 ?side2 A10.out).mono ?_); (case side1 => repeat (first | exact (Kd.C_below HR1.out HB.out) | (with_reducible refine Kd.C_alloc ?_ _) | (with_reducible refine Kd.C_drewN ?_ _) | (with_reducible refine Kd.C_drew ?_))); (case side2 => exact HC1.out); rintro e w19 ⟨v305, rfl, ho0, hb⟩; refine ⟨_, rfl, ?_⟩; have n0_ := Aside0.mk (Kd.R_below (by (with_reducible repeat (first | apply Kd.R_alloc | apply Kd.R_drewN | apply Kd.R_drew)); exact HO293.out) hb); have n1_ := Aside0.mk (Kd.R_elder' (by (with_reducible repeat (first | apply Kd.R_alloc | apply Kd.R_drewN | apply Kd.R_drew)); exact HO296.out) (Kd.R_base ho0) hb); have n2_ := Aside0.mk (Kd.R_elder' (by (with_reducible repeat (first | apply Kd.R_alloc | apply Kd.R_drewN | apply Kd.R_drew)); exact HO300.out) (Kd.R_base ho0) hb); have n3_ := Aside0.mk (Kd.R_below (by (with_reducible repeat (first | apply Kd.R_alloc | apply Kd.R_drewN | apply Kd.R_drew)); exact HO303.out) hb); have n4_ := Aside0.mk (Kd.R_lower (Kd.R_new' (Kd.R_new' ho0 (Kd.R_lt (by (with_reducible repeat (first | apply Kd.R_alloc | apply Kd.R_drewN | apply Kd.R_drew)); exact HO296.out))) (Kd.R_lt (by (with_reducible repeat (first | apply Kd.R_alloc | apply Kd.R_drewN | apply Kd.R_drew)); exact HO300.out))) (below_size (by repeat (first | (with_reducible first | exact HB.out | apply below_alloc | apply pw_below_drewN | apply below_drew1) | exact HB.out)))); have n5_ := Aside0.mk (below_step (by repeat (first | (with_reducible first | exact HB.out | apply below_alloc | apply pw_below_drewN | apply below_drew1) | exact HB.out)) hb); clear HO293; clear HO296; clear HO300; clear HO303; clear HB; have HO293 := n0_; have HO296 := n1_; have HO300 := n2_; have HO303 := n3_; have HO306 := n4_; have HB := n5_; clear n0_ n1_ n2_ n3_ n4_ n5_; (try clear hb); (try clear hb2); (try clear hk); (try clear hi); (try clear ho0); obtain ⟨Ao20, co20, eo20⟩ := Kd.R_slice HO303.out; subst eo20; obtain ⟨Ao21, co21, eo21⟩ := Kd.R_slice HO306.out; subst eo21) | ((with_reducible refine gate_callee (f := 44) rfl ?_); refine goesL_ (some 40) rfl rfl Try.func44 (by kernel_rfl) rfl #[.slice Ao20 t301.length co20, .slice Ao21 t304.length co21] rfl (by (try simp only [List.map_toArray, List.map_cons, List.map_nil]); first | done | rfl | (simp only [List.length_drop, List.length_take]; rfl)) ?_; (with_reducible refine (impl_BestLoomPlan.calls _ _ t301 _ _ t304 t307 t308 _ ?side1 ?side2 ?side3 ?side4 A11.out).mono ?_); (case side1 => repeat (first | exact (Kd.R_reads' HO303.out).2.2 | (with_reducible refine Kd.C_alloc ?_ _) | (with_reducible refine Kd.C_drewN ?_ _) | (with_reducible refine Kd.C_drew ?_))); (case side2 => exact (Kd.R_reads' HO303.out).2.1); (case side3 => repeat (first | exact (Kd.R_reads' HO306.out).2.2 | (with_reducible refine Kd.C_alloc ?_ _) | (with_reducible refine Kd.C_drewN ?_ _) | (with_reducible refine Kd.C_drew ?_))); (case side4 => exact (Kd.R_reads' HO306.out).2.1); rintro e w22 ⟨v309, rfl, ho0, hb⟩; refine ⟨_, rfl, ?_⟩; have n0_ := Aside0.mk (Kd.R_below (by (with_reducible repeat (first | apply Kd.R_alloc | apply Kd.R_drewN | apply Kd.R_drew)); exact HO293.out) hb); have n1_ := Aside0.mk (Kd.R_elder' (by (with_reducible repeat (first | apply Kd.R_alloc | apply Kd.R_drewN | apply Kd.R_drew)); exact HO296.out) (Kd.R_base ho0) hb); have n2_ := Aside0.mk (Kd.R_elder' (by (with_reducible repeat (first | apply Kd.R_alloc | apply Kd.R_drewN | apply Kd.R_drew)); exact HO300.out) (Kd.R_base ho0) hb); have n3_ := Aside0.mk (Kd.R_below (by (with_reducible repeat (first | apply Kd.R_alloc | apply Kd.R_drewN | apply Kd.R_drew)); exact HO303.out) hb); have n4_ := Aside0.mk (Kd.R_elder' (by (with_reducible repeat (first | apply Kd.R_alloc | apply Kd.R_drewN | apply Kd.R_drew)); exact HO306.out) (Kd.R_base ho0) hb); have n5_ := Aside0.mk (Kd.R_lower (Kd.R_new' (Kd.R_new' (Kd.R_new' ho0 (Kd.R_lt (by (with_reducible repeat (first | apply Kd.R_alloc | apply Kd.R_drewN | apply Kd.R_drew)); exact HO296.out))) (Kd.R_lt (by (with_reducible repeat (first | apply Kd.R_alloc | apply Kd.R_drewN | apply Kd.R_drew)); exact HO300.out))) (Kd.R_lt (by (with_reducible repeat (first | apply Kd.R_alloc | apply Kd.R_drewN | apply Kd.R_drew)); exact HO306.out))) (below_size (by repeat (first | (with_reducible first | exact HB.out | apply below_alloc | apply pw_below_drewN | apply below_drew1) | exact HB.out)))); have n6_ := Aside0.mk (below_step (by repeat (first | (with_reducible first | exact HB.out | apply below_alloc | apply pw_below_drewN | apply below_drew1) | exact HB.out)) hb); clear HO293; clear HO296; clear HO300; clear HO303; clear HO306; clear HB; have HO293 := n0_; have HO296 := n1_; have HO300 := n2_; have HO303 := n3_; have HO306 := n4_; have HO310 := n5_; have HB := n6_; clear n0_ n1_ n2_ n3_ n4_ n5_ n6_; (try clear hb); (try clear hb2); (try clear hk); (try clear hi); (try clear ho0)))
   (try simp only [Act.put, List.setIfInBounds_toArray, List.set_cons_zero, List.set_cons_succ])
   go_cut [51] (fun v51 wc => ∃ (kq : Nat) (x51_11 : Bool), v51 = .bool x51_11 ∧ Aside0 (laws_FnExactBestLoomPlan.j0 kq l0 l1 t297 t298 t301 t304 t307 t308 x51_11 = some r) ∧ Aside0 (kq ≤ k) ∧ Aside0 (Kd.R (Kd.int .i64) 3 wc w.heap.size (fun k_ => some k_ ≠ ((.slice Ao21 t304.length co21) : Value).ownBlock ∧ some k_ ≠ (v309 : Value).ownBlock) v299 t297) ∧ Aside0 (Kd.R k51 51 wc w.heap.size (fun _ => True) (.slice Ao20 t301.length co20) t301) ∧ Aside0 (Kd.R (Kd.int .i64) 3 wc w.heap.size (fun k_ => some k_ ≠ (v299 : Value).ownBlock ∧ some k_ ≠ (v309 : Value).ownBlock) (.slice Ao21 t304.length co21) t304) ∧ Aside0 (Kd.R (Kd.int .i64) 3 wc w.heap.size (fun k_ => some k_ ≠ (v299 : Value).ownBlock ∧ some k_ ≠ ((.slice Ao21 t304.length co21) : Value).ownBlock) v309 t307) ∧ Aside0 (Below w.heap.size w wc))
   case first =>
    have H := HC12.out
    clear HC12
    replace H := Option.bind_eq_some_iff.mp H
    obtain ⟨t311, A230, H⟩ := H
    have A23 := Aside0.mk A230
    clear A230
    by_cases c24 : t311 = true
    ·subst c24
     rw [if_pos rfl] at H
     have H' := Aside0.mk H
     clear H
     obtain ⟨Ao25, co25, eo25⟩ := Kd.R_slice HO310.out
     subst eo25
     obtain ⟨Ao26, co26, eo26⟩ := Kd.R_slice HO300.out
     subst eo26
     go_wp2_with (first | ((with_reducible refine gate_callee (f := 22) rfl ?_); refine goesL_ (some 45) rfl rfl Try.func22 (by kernel_rfl) rfl #[.slice Ao25 t307.length co25, .slice Ao26 t297.length co26] rfl (by (try simp only [List.map_toArray, List.map_cons, List.map_nil]); first | done | rfl | (simp only [List.length_drop, List.length_take]; rfl)) ?_; (with_reducible refine (laws_eqIntS.calls k _ _ t307 _ _ t297 true _ ?side1 ?side2 ?side3 ?side4 A23.out).mono ?_); (case side1 => repeat (first | exact (Kd.R_reads' HO310.out).2.2 | (with_reducible refine Kd.C_alloc ?_ _) | (with_reducible refine Kd.C_drewN ?_ _) | (with_reducible refine Kd.C_drew ?_))); (case side2 => exact (Kd.R_reads' HO310.out).2.1); (case side3 => repeat (first | exact (Kd.R_reads' HO300.out).2.2 | (with_reducible refine Kd.C_alloc ?_ _) | (with_reducible refine Kd.C_drewN ?_ _) | (with_reducible refine Kd.C_drew ?_))); (case side4 => exact (Kd.R_reads' HO300.out).2.1); rintro e w' ⟨rfl, ⟨nd, rfl⟩⟩; refine ⟨_, rfl, ?_⟩))
     go_meet
     case rel => exact ⟨_, ((t308 != t298)), (by first | rfl | (simp; done) | (simp [*]; done)), H', ⟨by first | omega | exact Nat.le_refl _⟩, ⟨by (with_reducible repeat (first | apply Kd.R_alloc | apply Kd.R_drewN | apply Kd.R_drew)); exact Kd.R_mono HO300.out (fun _ hk => ⟨hk.1.2, hk.2⟩)⟩, ⟨by (with_reducible repeat (first | apply Kd.R_alloc | apply Kd.R_drewN | apply Kd.R_drew)); exact Kd.R_mono HO303.out (fun _ hk => trivial)⟩, ⟨by (with_reducible repeat (first | apply Kd.R_alloc | apply Kd.R_drewN | apply Kd.R_drew)); exact Kd.R_mono HO306.out (fun _ hk => ⟨hk.1.2, hk.2⟩)⟩, ⟨by (with_reducible repeat (first | apply Kd.R_alloc | apply Kd.R_drewN | apply Kd.R_drew)); exact Kd.R_mono HO310.out (fun _ hk => ⟨hk.1.2, hk.2⟩)⟩, ⟨by repeat (first | (with_reducible first | exact HB.out | apply below_alloc | apply pw_below_drewN | apply below_drew1) | exact HB.out)⟩⟩
    ·replace c24 := Bool.eq_false_iff.mpr c24
     subst c24
     rw [if_neg (show ¬ (false = true) by decide)] at H
     have H' := Aside0.mk H
     clear H
     obtain ⟨Ao27, co27, eo27⟩ := Kd.R_slice HO310.out
     subst eo27
     obtain ⟨Ao28, co28, eo28⟩ := Kd.R_slice HO300.out
     subst eo28
     go_wp2_with (first | ((with_reducible refine gate_callee (f := 22) rfl ?_); refine goesL_ (some 45) rfl rfl Try.func22 (by kernel_rfl) rfl #[.slice Ao27 t307.length co27, .slice Ao28 t297.length co28] rfl (by (try simp only [List.map_toArray, List.map_cons, List.map_nil]); first | done | rfl | (simp only [List.length_drop, List.length_take]; rfl)) ?_; (with_reducible refine (laws_eqIntS.calls k _ _ t307 _ _ t297 false _ ?side1 ?side2 ?side3 ?side4 A23.out).mono ?_); (case side1 => repeat (first | exact (Kd.R_reads' HO310.out).2.2 | (with_reducible refine Kd.C_alloc ?_ _) | (with_reducible refine Kd.C_drewN ?_ _) | (with_reducible refine Kd.C_drew ?_))); (case side2 => exact (Kd.R_reads' HO310.out).2.1); (case side3 => repeat (first | exact (Kd.R_reads' HO300.out).2.2 | (with_reducible refine Kd.C_alloc ?_ _) | (with_reducible refine Kd.C_drewN ?_ _) | (with_reducible refine Kd.C_drew ?_))); (case side4 => exact (Kd.R_reads' HO300.out).2.1); rintro e w' ⟨rfl, ⟨nd, rfl⟩⟩; refine ⟨_, rfl, ?_⟩))
     go_meet
     case rel => exact ⟨_, (true), (by first | rfl | (simp; done) | (simp [*]; done)), H', ⟨by first | omega | exact Nat.le_refl _⟩, ⟨by (with_reducible repeat (first | apply Kd.R_alloc | apply Kd.R_drewN | apply Kd.R_drew)); exact Kd.R_mono HO300.out (fun _ hk => ⟨hk.1.2, hk.2⟩)⟩, ⟨by (with_reducible repeat (first | apply Kd.R_alloc | apply Kd.R_drewN | apply Kd.R_drew)); exact Kd.R_mono HO303.out (fun _ hk => trivial)⟩, ⟨by (with_reducible repeat (first | apply Kd.R_alloc | apply Kd.R_drewN | apply Kd.R_drew)); exact Kd.R_mono HO306.out (fun _ hk => ⟨hk.1.2, hk.2⟩)⟩, ⟨by (with_reducible repeat (first | apply Kd.R_alloc | apply Kd.R_drewN | apply Kd.R_drew)); exact Kd.R_mono HO310.out (fun _ hk => ⟨hk.1.2, hk.2⟩)⟩, ⟨by repeat (first | (with_reducible first | exact HB.out | apply below_alloc | apply pw_below_drewN | apply below_drew1) | exact HB.out)⟩⟩
   case rest =>
    clear HC12
    try clear c1
    try clear c2
    try clear p2
    try clear c3
    try clear c3b0
    try clear c3b1
    try clear c4
    try clear c5
    try clear c5b0
    try clear p6
    try clear c12
    try clear c14
    try clear c16
    try clear c20
    try clear c22
    try clear c24
    obtain ⟨kq, x51_11, rfl, HA, HJ11, HO_6, HO_8, HO_9, HO_10, HB⟩ := hcut
    cases kq with
    | zero => exact absurd HA.out (by simp [laws_FnExactBestLoomPlan.j0])
    | succ kj11 =>
     have H := HA.out
     clear HA
     simp only [laws_FnExactBestLoomPlan.j0] at H
     by_cases c29 : x51_11 = true
     ·subst c29
      rw [if_pos rfl] at H
      obtain rfl := Option.some.inj H
      go_wp2
      go_ret
      exact ⟨by first | rfl | (simp [errW_none, errW_some] <;> rfl) | (simp [*, errW_none, errW_some] <;> rfl) | (simp [wrap64]; done), by repeat (first | (with_reducible first | exact HB.out | apply below_alloc | apply pw_below_drewN | apply below_drew1) | exact HB.out)⟩
     ·replace c29 := Bool.eq_false_iff.mpr c29
      subst c29
      rw [if_neg (show ¬ (false = true) by decide)] at H
      replace H := Option.bind_eq_some_iff.mp H
      obtain ⟨t312, A300, H⟩ := H
      have A30 := Aside0.mk A300
      clear A300
      replace H := Option.bind_eq_some_iff.mp H
      obtain ⟨t315, A310, H⟩ := H
      have A31 := Aside0.mk A310
      clear A310
      by_cases c32 : t315 = true
      ·subst c32
       rw [if_pos rfl] at H
       replace H := Option.bind_eq_some_iff.mp H
       obtain ⟨t316, A330, H⟩ := H
       have A33 := Aside0.mk A330
       clear A330
       replace H := Option.bind_eq_some_iff.mp H
       obtain ⟨t319, A340, H⟩ := H
       have A34 := Aside0.mk A340
       clear A340
       by_cases c35 : t319 = true
       ·subst c35
        rw [if_pos rfl] at H
        replace H := Option.bind_eq_some_iff.mp H
        obtain ⟨⟨t320, t321⟩, A360, H⟩ := H
        have A36 := Aside0.mk A360
        clear A360
        replace H := Option.bind_eq_some_iff.mp H
        obtain ⟨⟨t322, t323⟩, A370, H⟩ := H
        have A37 := Aside0.mk A370
        clear A370
        have HC38 := Aside0.mk H
        clear H
        go_upto_region 20 with (first | ((with_reducible refine gate_callee (f := 16) rfl ?_); refine goesL_ (some 54) rfl rfl Try.func16 (by kernel_rfl) rfl #[.slice A0 l0.length c0] rfl (by (try simp only [List.map_toArray, List.map_cons, List.map_nil]); first | done | rfl | (simp only [List.length_drop, List.length_take]; rfl)) ?_; (with_reducible refine (laws_toLoomJobS.calls kj11 _ _ l0 t312 _ ?side1 ?side2 A30.out).mono ?_); (case side1 => repeat (first | exact (Kd.C_below HR0.out HB.out) | (with_reducible refine Kd.C_alloc ?_ _) | (with_reducible refine Kd.C_drewN ?_ _) | (with_reducible refine Kd.C_drew ?_))); (case side2 => exact HC0.out); rintro e w39 ⟨v313, rfl, ho0, hb⟩; refine ⟨_, rfl, ?_⟩; have n0_ := Aside0.mk (Kd.R_below (by (with_reducible repeat (first | apply Kd.R_alloc | apply Kd.R_drewN | apply Kd.R_drew)); exact HO_6.out) hb); have n1_ := Aside0.mk (Kd.R_elder' (by (with_reducible repeat (first | apply Kd.R_alloc | apply Kd.R_drewN | apply Kd.R_drew)); exact HO_8.out) (Kd.R_base ho0) hb); have n2_ := Aside0.mk (Kd.R_below (by (with_reducible repeat (first | apply Kd.R_alloc | apply Kd.R_drewN | apply Kd.R_drew)); exact HO_9.out) hb); have n3_ := Aside0.mk (Kd.R_below (by (with_reducible repeat (first | apply Kd.R_alloc | apply Kd.R_drewN | apply Kd.R_drew)); exact HO_10.out) hb); have n4_ := Aside0.mk (Kd.R_lower (Kd.R_new' ho0 (Kd.R_lt (by (with_reducible repeat (first | apply Kd.R_alloc | apply Kd.R_drewN | apply Kd.R_drew)); exact HO_8.out))) (below_size (by repeat (first | (with_reducible first | exact HB.out | apply below_alloc | apply pw_below_drewN | apply below_drew1) | exact HB.out)))); have n5_ := Aside0.mk (below_step (by repeat (first | (with_reducible first | exact HB.out | apply below_alloc | apply pw_below_drewN | apply below_drew1) | exact HB.out)) hb); clear HO_6; clear HO_8; clear HO_9; clear HO_10; clear HB; have HO_6 := n0_; have HO_8 := n1_; have HO_9 := n2_; have HO_10 := n3_; have HO314 := n4_; have HB := n5_; clear n0_ n1_ n2_ n3_ n4_ n5_; (try clear hb); (try clear hb2); (try clear hk); (try clear hi); (try clear ho0); obtain ⟨Ao40, co40, eo40⟩ := Kd.R_slice HO314.out; subst eo40) | ((with_reducible refine gate_callee (f := 18) rfl ?_); refine goesL_ (some 55) rfl rfl Try.func18 (by kernel_rfl) rfl #[.slice Ao20 t301.length co20, .slice Ao40 t312.length co40] rfl (by (try simp only [List.map_toArray, List.map_cons, List.map_nil]); first | done | rfl | (simp only [List.length_drop, List.length_take]; rfl)) ?_; (with_reducible refine (laws_eqLoomJobS.calls kj11 _ _ t301 _ _ t312 true _ ?side1 ?side2 ?side3 ?side4 A31.out).mono ?_); (case side1 => repeat (first | exact (Kd.R_reads' HO_8.out).2.2 | (with_reducible refine Kd.C_alloc ?_ _) | (with_reducible refine Kd.C_drewN ?_ _) | (with_reducible refine Kd.C_drew ?_))); (case side2 => exact (Kd.R_reads' HO_8.out).2.1); (case side3 => repeat (first | exact (Kd.R_reads' HO314.out).2.2 | (with_reducible refine Kd.C_alloc ?_ _) | (with_reducible refine Kd.C_drewN ?_ _) | (with_reducible refine Kd.C_drew ?_))); (case side4 => exact (Kd.R_reads' HO314.out).2.1); rintro e w41 ⟨rfl, hb⟩; refine ⟨_, rfl, ?_⟩; have n0_ := Aside0.mk (Kd.R_below (by (with_reducible repeat (first | apply Kd.R_alloc | apply Kd.R_drewN | apply Kd.R_drew)); exact HO_6.out) hb); have n1_ := Aside0.mk (Kd.R_below (by (with_reducible repeat (first | apply Kd.R_alloc | apply Kd.R_drewN | apply Kd.R_drew)); exact HO_8.out) hb); have n2_ := Aside0.mk (Kd.R_below (by (with_reducible repeat (first | apply Kd.R_alloc | apply Kd.R_drewN | apply Kd.R_drew)); exact HO_9.out) hb); have n3_ := Aside0.mk (Kd.R_below (by (with_reducible repeat (first | apply Kd.R_alloc | apply Kd.R_drewN | apply Kd.R_drew)); exact HO_10.out) hb); have n4_ := Aside0.mk (Kd.R_below (by (with_reducible repeat (first | apply Kd.R_alloc | apply Kd.R_drewN | apply Kd.R_drew)); exact HO314.out) hb); have n5_ := Aside0.mk (below_step (by repeat (first | (with_reducible first | exact HB.out | apply below_alloc | apply pw_below_drewN | apply below_drew1) | exact HB.out)) hb); clear HO_6; clear HO_8; clear HO_9; clear HO_10; clear HO314; clear HB; have HO_6 := n0_; have HO_8 := n1_; have HO_9 := n2_; have HO_10 := n3_; have HO314 := n4_; have HB := n5_; clear n0_ n1_ n2_ n3_ n4_ n5_; (try clear hb); (try clear hb2); (try clear hk); (try clear hi)) | ((with_reducible refine gate_callee (f := 20) rfl ?_); refine goesL_ (some 59) rfl rfl Try.func20 (by kernel_rfl) rfl #[.slice A1 l1.length c1] rfl (by (try simp only [List.map_toArray, List.map_cons, List.map_nil]); first | done | rfl | (simp only [List.length_drop, List.length_take]; rfl)) ?_; (with_reducible refine (laws_toIntS.calls kj11 _ _ l1 t316 _ ?side1 ?side2 A33.out).mono ?_); (case side1 => repeat (first | exact (Kd.C_below HR1.out HB.out) | (with_reducible refine Kd.C_alloc ?_ _) | (with_reducible refine Kd.C_drewN ?_ _) | (with_reducible refine Kd.C_drew ?_))); (case side2 => exact HC1.out); rintro e w42 ⟨v317, rfl, ho0, hb⟩; refine ⟨_, rfl, ?_⟩; have n0_ := Aside0.mk (Kd.R_elder' (by (with_reducible repeat (first | apply Kd.R_alloc | apply Kd.R_drewN | apply Kd.R_drew)); exact HO_6.out) (Kd.R_base ho0) hb); have n1_ := Aside0.mk (Kd.R_below (by (with_reducible repeat (first | apply Kd.R_alloc | apply Kd.R_drewN | apply Kd.R_drew)); exact HO_8.out) hb); have n2_ := Aside0.mk (Kd.R_elder' (by (with_reducible repeat (first | apply Kd.R_alloc | apply Kd.R_drewN | apply Kd.R_drew)); exact HO_9.out) (Kd.R_base ho0) hb); have n3_ := Aside0.mk (Kd.R_elder' (by (with_reducible repeat (first | apply Kd.R_alloc | apply Kd.R_drewN | apply Kd.R_drew)); exact HO_10.out) (Kd.R_base ho0) hb); have n4_ := Aside0.mk (Kd.R_below (by (with_reducible repeat (first | apply Kd.R_alloc | apply Kd.R_drewN | apply Kd.R_drew)); exact HO314.out) hb); have n5_ := Aside0.mk (Kd.R_lower (Kd.R_new' (Kd.R_new' (Kd.R_new' ho0 (Kd.R_lt (by (with_reducible repeat (first | apply Kd.R_alloc | apply Kd.R_drewN | apply Kd.R_drew)); exact HO_6.out))) (Kd.R_lt (by (with_reducible repeat (first | apply Kd.R_alloc | apply Kd.R_drewN | apply Kd.R_drew)); exact HO_9.out))) (Kd.R_lt (by (with_reducible repeat (first | apply Kd.R_alloc | apply Kd.R_drewN | apply Kd.R_drew)); exact HO_10.out))) (below_size (by repeat (first | (with_reducible first | exact HB.out | apply below_alloc | apply pw_below_drewN | apply below_drew1) | exact HB.out)))); have n6_ := Aside0.mk (below_step (by repeat (first | (with_reducible first | exact HB.out | apply below_alloc | apply pw_below_drewN | apply below_drew1) | exact HB.out)) hb); clear HO_6; clear HO_8; clear HO_9; clear HO_10; clear HO314; clear HB; have HO_6 := n0_; have HO_8 := n1_; have HO_9 := n2_; have HO_10 := n3_; have HO314 := n4_; have HO318 := n5_; have HB := n6_; clear n0_ n1_ n2_ n3_ n4_ n5_ n6_; (try clear hb); (try clear hb2); (try clear hk); (try clear hi); (try clear ho0); obtain ⟨Ao43, co43, eo43⟩ := Kd.R_slice HO318.out; subst eo43) | ((with_reducible refine gate_callee (f := 22) rfl ?_); refine goesL_ (some 60) rfl rfl Try.func22 (by kernel_rfl) rfl #[.slice Ao21 t304.length co21, .slice Ao43 t316.length co43] rfl (by (try simp only [List.map_toArray, List.map_cons, List.map_nil]); first | done | rfl | (simp only [List.length_drop, List.length_take]; rfl)) ?_; (with_reducible refine (laws_eqIntS.calls kj11 _ _ t304 _ _ t316 true _ ?side1 ?side2 ?side3 ?side4 A34.out).mono ?_); (case side1 => repeat (first | exact (Kd.R_reads' HO_9.out).2.2 | (with_reducible refine Kd.C_alloc ?_ _) | (with_reducible refine Kd.C_drewN ?_ _) | (with_reducible refine Kd.C_drew ?_))); (case side2 => exact (Kd.R_reads' HO_9.out).2.1); (case side3 => repeat (first | exact (Kd.R_reads' HO318.out).2.2 | (with_reducible refine Kd.C_alloc ?_ _) | (with_reducible refine Kd.C_drewN ?_ _) | (with_reducible refine Kd.C_drew ?_))); (case side4 => exact (Kd.R_reads' HO318.out).2.1); rintro e w' ⟨rfl, ⟨nd, rfl⟩⟩; refine ⟨_, rfl, ?_⟩) | ((with_reducible refine gate_callee (f := 25) rfl ?_); refine goesL_ (some 64) rfl rfl Try.func25 (by kernel_rfl) rfl #[.slice Ao20 t301.length co20, .int .i64 1] rfl (by (try simp only [List.map_toArray, List.map_cons, List.map_nil]); first | done | rfl | (simp only [List.length_drop, List.length_take]; rfl)) ?_; (with_reducible refine (laws_markLoomJobS.calls kj11 (fun k_ => some k_ = (.slice Ao20 t301.length co20 : Value).ownBlock) (.slice Ao20 t301.length co20) t301 1 t320 t321 w _ ?side1 ?side2 A36.out).mono ?_); (case side1 => repeat (first | (with_reducible first | exact HB.out | apply below_alloc | apply pw_below_drewN | apply below_drew1) | exact HB.out)); (case side2 => exact Kd.R_tight rfl HO_8.out); rintro e w44 ⟨rfl, hy0, hb, hkp⟩; refine ⟨_, rfl, ?_⟩; have n0_ := Aside0.mk (Kd.R_mono (ok' := fun k_ => some k_ ≠ (.slice Ao21 t304.length co21 : Value).ownBlock ∧ some k_ ≠ (v309 : Value).ownBlock ∧ some k_ ≠ (.slice Ao43 t316.length co43 : Value).ownBlock) (Kd.R_keptB ((Kd.R_apart' HO_6.out (Kd.R_typed HO_8.out) (by decide))) hkp (fun k_ hk_ hs_ => (hk_.2) hs_)) (fun k_ hk_ => ⟨hk_.1.1.1.1, hk_.1.1.1.2, hk_.1.1.2⟩)); have n1_ := Aside0.mk (Kd.R_reok rfl hy0 (fun k_ e_ => HO_8.out.1 k_ e_)); have n2_ := Aside0.mk (Kd.R_mono (ok' := fun k_ => some k_ ≠ (v299 : Value).ownBlock ∧ some k_ ≠ (v309 : Value).ownBlock ∧ some k_ ≠ (.slice Ao43 t316.length co43 : Value).ownBlock) (Kd.R_keptB ((Kd.R_apart' HO_9.out (Kd.R_typed HO_8.out) (by decide))) hkp (fun k_ hk_ hs_ => (hk_.2) hs_)) (fun k_ hk_ => ⟨hk_.1.1.1.1, hk_.1.1.1.2, hk_.1.1.2⟩)); have n3_ := Aside0.mk (Kd.R_mono (ok' := fun k_ => some k_ ≠ (v299 : Value).ownBlock ∧ some k_ ≠ (.slice Ao21 t304.length co21 : Value).ownBlock ∧ some k_ ≠ (.slice Ao43 t316.length co43 : Value).ownBlock) (Kd.R_keptB ((Kd.R_apart' HO_10.out (Kd.R_typed HO_8.out) (by decide))) hkp (fun k_ hk_ hs_ => (hk_.2) hs_)) (fun k_ hk_ => ⟨hk_.1.1.1.1, hk_.1.1.1.2, hk_.1.1.2⟩)); have n4_ := Aside0.mk (Kd.R_mono (ok' := fun k_ => some k_ ≠ (.slice Ao20 t301.length co20 : Value).ownBlock) (Kd.R_keptB (HO314.out) hkp (fun k_ hk_ hs_ => (hk_.2) hs_)) (fun k_ hk_ => hk_.1.2)); have n5_ := Aside0.mk (Kd.R_mono (ok' := fun k_ => some k_ ≠ (v299 : Value).ownBlock ∧ some k_ ≠ (.slice Ao21 t304.length co21 : Value).ownBlock ∧ some k_ ≠ (v309 : Value).ownBlock) (Kd.R_keptB ((Kd.R_apart' HO318.out (Kd.R_typed HO_8.out) (by decide))) hkp (fun k_ hk_ hs_ => (hk_.2) hs_)) (fun k_ hk_ => ⟨hk_.1.1.1.1.2, hk_.1.1.1.2, hk_.1.1.2⟩)); have n6_ := Aside0.mk (hb); clear HO_6; clear HO_8; clear HO_9; clear HO_10; clear HO314; clear HO318; clear HB; have HO_6 := n0_; have HO_8 := n1_; have HO_9 := n2_; have HO_10 := n3_; have HO314 := n4_; have HO318 := n5_; have HB := n6_; clear n0_ n1_ n2_ n3_ n4_ n5_ n6_; (try clear hb); (try clear hkp); (try clear hy0)) | ((with_reducible refine gate_callee (f := 26) rfl ?_); refine goesL_ (some 67) rfl rfl Try.func26 (by kernel_rfl) rfl #[.slice Ao21 t304.length co21, .int .i64 t320] rfl (by (try simp only [List.map_toArray, List.map_cons, List.map_nil]); first | done | rfl | (simp only [List.length_drop, List.length_take]; rfl)) ?_; (with_reducible refine (laws_markIntS.calls kj11 (fun k_ => some k_ = (.slice Ao21 t304.length co21 : Value).ownBlock) (.slice Ao21 t304.length co21) t304 t320 t322 t323 w _ ?side1 ?side2 A37.out).mono ?_); (case side1 => repeat (first | (with_reducible first | exact HB.out | apply below_alloc | apply pw_below_drewN | apply below_drew1) | exact HB.out)); (case side2 => exact Kd.R_tight rfl HO_9.out); rintro e w45 ⟨rfl, hy0, hb, hkp⟩; refine ⟨_, rfl, ?_⟩; have n0_ := Aside0.mk (Kd.R_mono (ok' := fun k_ => some k_ ≠ (.slice Ao21 t304.length co21 : Value).ownBlock ∧ some k_ ≠ (v309 : Value).ownBlock ∧ some k_ ≠ (.slice Ao43 t316.length co43 : Value).ownBlock) (Kd.R_keptB (HO_6.out) hkp (fun k_ hk_ hs_ => (hk_.1) hs_)) (fun k_ hk_ => ⟨hk_.1.1, hk_.1.2.1, hk_.1.2.2⟩)); have n1_ := Aside0.mk (Kd.R_mono (ok' := fun k_ => some k_ ≠ (.slice Ao40 t312.length co40 : Value).ownBlock) (Kd.R_keptB ((Kd.R_apart' HO_8.out (Kd.R_typed HO_9.out) (by decide))) hkp (fun k_ hk_ hs_ => (hk_.2) hs_)) (fun k_ hk_ => hk_.1.1.2)); have n2_ := Aside0.mk (Kd.R_reok rfl hy0 (fun k_ e_ => HO_9.out.1 k_ e_)); have n3_ := Aside0.mk (Kd.R_mono (ok' := fun k_ => some k_ ≠ (v299 : Value).ownBlock ∧ some k_ ≠ (.slice Ao21 t304.length co21 : Value).ownBlock ∧ some k_ ≠ (.slice Ao43 t316.length co43 : Value).ownBlock) (Kd.R_keptB (HO_10.out) hkp (fun k_ hk_ hs_ => (hk_.2.1) hs_)) (fun k_ hk_ => ⟨hk_.1.1, hk_.1.2.1, hk_.1.2.2⟩)); have n4_ := Aside0.mk (Kd.R_mono (ok' := fun k_ => some k_ ≠ (.slice Ao20 t301.length co20 : Value).ownBlock) (Kd.R_keptB ((Kd.R_apart' HO314.out (Kd.R_typed HO_9.out) (by decide))) hkp (fun k_ hk_ hs_ => (hk_.2) hs_)) (fun k_ hk_ => hk_.1.1)); have n5_ := Aside0.mk (Kd.R_mono (ok' := fun k_ => some k_ ≠ (v299 : Value).ownBlock ∧ some k_ ≠ (.slice Ao21 t304.length co21 : Value).ownBlock ∧ some k_ ≠ (v309 : Value).ownBlock) (Kd.R_keptB (HO318.out) hkp (fun k_ hk_ hs_ => (hk_.2.1) hs_)) (fun k_ hk_ => ⟨hk_.1.1, hk_.1.2.1, hk_.1.2.2⟩)); have n6_ := Aside0.mk (hb); clear HO_6; clear HO_8; clear HO_9; clear HO_10; clear HO314; clear HO318; clear HB; have HO_6 := n0_; have HO_8 := n1_; have HO_9 := n2_; have HO_10 := n3_; have HO314 := n4_; have HO318 := n5_; have HB := n6_; clear n0_ n1_ n2_ n3_ n4_ n5_ n6_; (try clear hb); (try clear hkp); (try clear hy0)))
        (try simp only [Act.put, List.setIfInBounds_toArray, List.set_cons_zero, List.set_cons_succ])
        go_cut [80] (fun v80 wc => ∃ (kq : Nat) (x80_37 : Bool), v80 = .bool x80_37 ∧ Aside0 (laws_FnExactBestLoomPlan.j1 kq l0 l1 t297 t298 t307 x80_37 = some r) ∧ Aside0 (kq ≤ kj11) ∧ Aside0 (Kd.R (Kd.int .i64) 3 wc w.heap.size (fun k_ => some k_ ≠ (v309 : Value).ownBlock) v299 t297) ∧ Aside0 (Kd.R (Kd.int .i64) 3 wc w.heap.size (fun k_ => some k_ ≠ (v299 : Value).ownBlock) v309 t307) ∧ Aside0 (Below w.heap.size w wc))
        case first =>
         have H := HC38.out
         clear HC38
         by_cases c46 : t322 < 0
         ·rw [if_pos c46] at H
          have c46b0 : decide (t322 < 0) = true := decide_eq_true c46
          clear c46
          (first | rw [c46b0] | (simp only [i64_w, i32_w]; rw [c46b0]) | skip)
          have H' := Aside0.mk H
          clear H
          go_wp2
          go_meet
          case rel => exact ⟨_, (true), (by first | rfl | (simp; done) | (simp [*]; done)), H', ⟨by have := HJ11.out; first | omega | exact Nat.le_refl _⟩, ⟨by (with_reducible repeat (first | apply Kd.R_alloc | apply Kd.R_drewN | apply Kd.R_drew)); exact Kd.R_mono HO_6.out (fun _ hk => hk.2.1)⟩, ⟨by (with_reducible repeat (first | apply Kd.R_alloc | apply Kd.R_drewN | apply Kd.R_drew)); exact Kd.R_mono HO_10.out (fun _ hk => hk.1)⟩, ⟨by repeat (first | (with_reducible first | exact HB.out | apply below_alloc | apply pw_below_drewN | apply below_drew1) | exact HB.out)⟩⟩
         ·rw [if_neg c46] at H
          have c46b0 : decide (t322 < 0) = false := decide_eq_false c46
          clear c46
          (first | rw [c46b0] | (simp only [i64_w, i32_w]; rw [c46b0]) | skip)
          replace H := Option.bind_eq_some_iff.mp H
          obtain ⟨t324, A470, H⟩ := H
          have A47 := Aside0.mk A470
          clear A470
          by_cases c48 : t324 = true
          ·subst c48
           rw [if_pos rfl] at H
           have H' := Aside0.mk H
           clear H
           obtain ⟨Ao49, co49, eo49⟩ := Kd.R_slice HO_10.out
           subst eo49
           obtain ⟨Ao50, co50, eo50⟩ := Kd.R_slice HO_6.out
           subst eo50
           go_wp2_with (first | (go_at_call 22; (with_reducible refine (laws_eqIntS.calls kj11 _ _ t307 _ _ t297 true _ ?side1 ?side2 ?side3 ?side4 A47.out).mono ?_); (case side1 => repeat (first | exact (Kd.R_reads' HO_10.out).2.2 | (with_reducible refine Kd.C_alloc ?_ _) | (with_reducible refine Kd.C_drewN ?_ _) | (with_reducible refine Kd.C_drew ?_))); (case side2 => exact (Kd.R_reads' HO_10.out).2.1); (case side3 => repeat (first | exact (Kd.R_reads' HO_6.out).2.2 | (with_reducible refine Kd.C_alloc ?_ _) | (with_reducible refine Kd.C_drewN ?_ _) | (with_reducible refine Kd.C_drew ?_))); (case side4 => exact (Kd.R_reads' HO_6.out).2.1); rintro e w' ⟨rfl, ⟨nd, rfl⟩⟩))
           go_meet
           case rel => exact ⟨_, ((t308 != t298)), (by first | rfl | (simp; done) | (simp [*]; done)), H', ⟨by have := HJ11.out; first | omega | exact Nat.le_refl _⟩, ⟨by (with_reducible repeat (first | apply Kd.R_alloc | apply Kd.R_drewN | apply Kd.R_drew)); exact Kd.R_mono HO_6.out (fun _ hk => hk.2.1)⟩, ⟨by (with_reducible repeat (first | apply Kd.R_alloc | apply Kd.R_drewN | apply Kd.R_drew)); exact Kd.R_mono HO_10.out (fun _ hk => hk.1)⟩, ⟨by repeat (first | (with_reducible first | exact HB.out | apply below_alloc | apply pw_below_drewN | apply below_drew1) | exact HB.out)⟩⟩
          ·replace c48 := Bool.eq_false_iff.mpr c48
           subst c48
           rw [if_neg (show ¬ (false = true) by decide)] at H
           have H' := Aside0.mk H
           clear H
           obtain ⟨Ao51, co51, eo51⟩ := Kd.R_slice HO_10.out
           subst eo51
           obtain ⟨Ao52, co52, eo52⟩ := Kd.R_slice HO_6.out
           subst eo52
           go_wp2_with (first | (go_at_call 22; (with_reducible refine (laws_eqIntS.calls kj11 _ _ t307 _ _ t297 false _ ?side1 ?side2 ?side3 ?side4 A47.out).mono ?_); (case side1 => repeat (first | exact (Kd.R_reads' HO_10.out).2.2 | (with_reducible refine Kd.C_alloc ?_ _) | (with_reducible refine Kd.C_drewN ?_ _) | (with_reducible refine Kd.C_drew ?_))); (case side2 => exact (Kd.R_reads' HO_10.out).2.1); (case side3 => repeat (first | exact (Kd.R_reads' HO_6.out).2.2 | (with_reducible refine Kd.C_alloc ?_ _) | (with_reducible refine Kd.C_drewN ?_ _) | (with_reducible refine Kd.C_drew ?_))); (case side4 => exact (Kd.R_reads' HO_6.out).2.1); rintro e w' ⟨rfl, ⟨nd, rfl⟩⟩))
           go_meet
           case rel => exact ⟨_, (true), (by first | rfl | (simp; done) | (simp [*]; done)), H', ⟨by have := HJ11.out; first | omega | exact Nat.le_refl _⟩, ⟨by (with_reducible repeat (first | apply Kd.R_alloc | apply Kd.R_drewN | apply Kd.R_drew)); exact Kd.R_mono HO_6.out (fun _ hk => hk.2.1)⟩, ⟨by (with_reducible repeat (first | apply Kd.R_alloc | apply Kd.R_drewN | apply Kd.R_drew)); exact Kd.R_mono HO_10.out (fun _ hk => hk.1)⟩, ⟨by repeat (first | (with_reducible first | exact HB.out | apply below_alloc | apply pw_below_drewN | apply below_drew1) | exact HB.out)⟩⟩
        case rest =>
         clear HC38
         try clear c1
         try clear c2
         try clear p2
         try clear c3
         try clear c3b0
         try clear c3b1
         try clear c4
         try clear c5
         try clear c5b0
         try clear p6
         try clear c12
         try clear c14
         try clear c16
         try clear c18
         try clear c20
         try clear c22
         try clear c24
         try clear c25
         try clear c26
         try clear c29
         try clear c32
         try clear c35
         try clear c43
         try clear c44
         try clear c46
         try clear c46b0
         try clear c48
         try clear p2
         try clear p6
         obtain ⟨kq, x80_37, rfl, HA, HJ37, HO_6, HO_10, HB⟩ := hcut
         cases kq with
         | zero => exact absurd HA.out (by simp [laws_FnExactBestLoomPlan.j1])
         | succ kj37 =>
          have H := HA.out
          clear HA
          simp only [laws_FnExactBestLoomPlan.j1] at H
          by_cases c53 : x80_37 = true
          ·subst c53
           rw [if_pos rfl] at H
           obtain rfl := Option.some.inj H
           go_wp2
           go_ret
           exact ⟨by first | rfl | (simp [errW_none, errW_some] <;> rfl) | (simp [*, errW_none, errW_some] <;> rfl) | (simp [wrap64]; done), by repeat (first | (with_reducible first | exact HB.out | apply below_alloc | apply pw_below_drewN | apply below_drew1) | exact HB.out)⟩
          ·replace c53 := Bool.eq_false_iff.mpr c53
           subst c53
           rw [if_neg (show ¬ (false = true) by decide)] at H
           replace H := Option.bind_eq_some_iff.mp H
           obtain ⟨⟨t325, t326⟩, A540, H⟩ := H
           have A54 := Aside0.mk A540
           clear A540
           replace H := Option.bind_eq_some_iff.mp H
           obtain ⟨t327, A550, H⟩ := H
           have A55 := Aside0.mk A550
           clear A550
           by_cases c56 : t327 < 0
           ·rw [if_pos c56] at H
            have c56b0 : decide (t327 < 0) = true := decide_eq_true c56
            clear c56
            obtain rfl := Option.some.inj H
            obtain ⟨Ao57, co57, eo57⟩ := Kd.R_slice HO_10.out
            subst eo57
            go_wp2_with (first | ((with_reducible refine gate_callee (f := 26) rfl ?_); refine goesL_ (some 83) rfl rfl Try.func26 (by kernel_rfl) rfl #[.slice Ao57 t307.length co57, .int .i64 1] rfl (by (try simp only [List.map_toArray, List.map_cons, List.map_nil]); first | done | rfl | (simp only [List.length_drop, List.length_take]; rfl)) ?_; (with_reducible refine (laws_markIntS.calls kj37 (fun k_ => some k_ = (.slice Ao57 t307.length co57 : Value).ownBlock) (.slice Ao57 t307.length co57) t307 1 t325 t326 w _ ?side1 ?side2 A54.out).mono ?_); (case side1 => repeat (first | (with_reducible first | exact HB.out | apply below_alloc | apply pw_below_drewN | apply below_drew1) | exact HB.out)); (case side2 => exact Kd.R_tight rfl HO_10.out); rintro e w58 ⟨rfl, hy0, hb, hkp⟩; refine ⟨_, rfl, ?_⟩; have n0_ := Aside0.mk (Kd.R_mono (ok' := fun k_ => some k_ ≠ (.slice Ao57 t307.length co57 : Value).ownBlock) (Kd.R_keptB (HO_6.out) hkp (fun k_ hk_ hs_ => (hk_) hs_)) (fun k_ hk_ => hk_.1)); have n1_ := Aside0.mk (Kd.R_reok rfl hy0 (fun k_ e_ => HO_10.out.1 k_ e_)); have n2_ := Aside0.mk (hb); clear HO_6; clear HO_10; clear HB; have HO_6 := n0_; have HO_10 := n1_; have HB := n2_; clear n0_ n1_ n2_; (try clear hb); (try clear hkp); (try clear hy0)) | ((with_reducible refine gate_callee (f := 27) rfl ?_); refine goesL_ (some 86) rfl rfl Try.func27 (by kernel_rfl) rfl #[.slice Ao57 t326.length co57, .int .i64 1] rfl (by (try simp only [List.map_toArray, List.map_cons, List.map_nil]); first | done | (rw [show t326.length = t307.length from (Kd.R_reads' HO_10.out).1.symm] <;> rfl) | rfl | (simp only [List.length_drop, List.length_take]; rfl)) ?_; (with_reducible refine (laws_heldIntS.calls kj37 _ _ t326 1 t327 _ ?side1 ?side2 A55.out).mono ?_); (case side1 => repeat (first | exact (Kd.R_reads' HO_10.out).2.2 | (with_reducible refine Kd.C_alloc ?_ _) | (with_reducible refine Kd.C_drewN ?_ _) | (with_reducible refine Kd.C_drew ?_))); (case side2 => rw [show t326.length = t307.length from (Kd.R_reads' HO_10.out).1.symm]; exact (Kd.R_reads' HO_10.out).2.1); rintro e w' ⟨rfl, ⟨nd, rfl⟩⟩; refine ⟨_, rfl, ?_⟩))
            go_ret
            exact ⟨by first | rfl | (simp [errW_none, errW_some] <;> rfl) | (simp [*, errW_none, errW_some] <;> rfl) | (simp [wrap64]; done), by repeat (first | (with_reducible first | exact HB.out | apply below_alloc | apply pw_below_drewN | apply below_drew1) | exact HB.out)⟩
           ·rw [if_neg c56] at H
            have c56b0 : decide (t327 < 0) = false := decide_eq_false c56
            clear c56
            by_cases c59 : t327 = t325
            ·rw [if_pos c59] at H
             have c59b0 : (t327 == t325) = true := beq_iff_eq.mpr c59
             have c59b1 : (t327 != t325) = false := bne_eq_false_iff_eq.mpr c59
             clear c59
             replace H := Option.bind_eq_some_iff.mp H
             obtain ⟨t328, A600, H⟩ := H
             have A60 := Aside0.mk A600
             clear A600
             replace H := Option.bind_eq_some_iff.mp H
             obtain ⟨t331, A610, H⟩ := H
             have A61 := Aside0.mk A610
             clear A610
             replace H := Option.bind_eq_some_iff.mp H
             obtain ⟨⟨t334, t335⟩, A620, H⟩ := H
             have A62 := Aside0.mk A620
             clear A620
             have HC63 := Aside0.mk H
             clear H
             obtain ⟨Ao64, co64, eo64⟩ := Kd.R_slice HO_10.out
             subst eo64
             go_upto_region 31 with (first | ((with_reducible refine gate_callee (f := 26) rfl ?_); refine goesL_ (some 83) rfl rfl Try.func26 (by kernel_rfl) rfl #[.slice Ao64 t307.length co64, .int .i64 1] rfl (by (try simp only [List.map_toArray, List.map_cons, List.map_nil]); first | done | rfl | (simp only [List.length_drop, List.length_take]; rfl)) ?_; (with_reducible refine (laws_markIntS.calls kj37 (fun k_ => some k_ = (.slice Ao64 t307.length co64 : Value).ownBlock) (.slice Ao64 t307.length co64) t307 1 t325 t326 w _ ?side1 ?side2 A54.out).mono ?_); (case side1 => repeat (first | (with_reducible first | exact HB.out | apply below_alloc | apply pw_below_drewN | apply below_drew1) | exact HB.out)); (case side2 => exact Kd.R_tight rfl HO_10.out); rintro e w65 ⟨rfl, hy0, hb, hkp⟩; refine ⟨_, rfl, ?_⟩; have n0_ := Aside0.mk (Kd.R_mono (ok' := fun k_ => some k_ ≠ (.slice Ao64 t307.length co64 : Value).ownBlock) (Kd.R_keptB (HO_6.out) hkp (fun k_ hk_ hs_ => (hk_) hs_)) (fun k_ hk_ => hk_.1)); have n1_ := Aside0.mk (Kd.R_reok rfl hy0 (fun k_ e_ => HO_10.out.1 k_ e_)); have n2_ := Aside0.mk (hb); clear HO_6; clear HO_10; clear HB; have HO_6 := n0_; have HO_10 := n1_; have HB := n2_; clear n0_ n1_ n2_; (try clear hb); (try clear hkp); (try clear hy0)) | ((with_reducible refine gate_callee (f := 27) rfl ?_); refine goesL_ (some 86) rfl rfl Try.func27 (by kernel_rfl) rfl #[.slice Ao64 t326.length co64, .int .i64 1] rfl (by (try simp only [List.map_toArray, List.map_cons, List.map_nil]); first | done | (rw [show t326.length = t307.length from (Kd.R_reads' HO_10.out).1.symm] <;> rfl) | rfl | (simp only [List.length_drop, List.length_take]; rfl)) ?_; (with_reducible refine (laws_heldIntS.calls kj37 _ _ t326 1 t327 _ ?side1 ?side2 A55.out).mono ?_); (case side1 => repeat (first | exact (Kd.R_reads' HO_10.out).2.2 | (with_reducible refine Kd.C_alloc ?_ _) | (with_reducible refine Kd.C_drewN ?_ _) | (with_reducible refine Kd.C_drew ?_))); (case side2 => rw [show t326.length = t307.length from (Kd.R_reads' HO_10.out).1.symm]; exact (Kd.R_reads' HO_10.out).2.1); rintro e w' ⟨rfl, ⟨nd, rfl⟩⟩; refine ⟨_, rfl, ?_⟩) | ((with_reducible refine gate_callee (f := 16) rfl ?_); refine goesL_ (some 94) rfl rfl Try.func16 (by kernel_rfl) rfl #[.slice A0 l0.length c0] rfl (by (try simp only [List.map_toArray, List.map_cons, List.map_nil]); first | done | rfl | (simp only [List.length_drop, List.length_take]; rfl)) ?_; (with_reducible refine (laws_toLoomJobS.calls kj37 _ _ l0 t328 _ ?side1 ?side2 A60.out).mono ?_); (case side1 => repeat (first | exact (Kd.C_below HR0.out (by repeat (first | (with_reducible first | exact HB.out | apply below_alloc | apply pw_below_drewN | apply below_drew1) | exact HB.out))) | (with_reducible refine Kd.C_alloc ?_ _) | (with_reducible refine Kd.C_drewN ?_ _) | (with_reducible refine Kd.C_drew ?_))); (case side2 => exact HC0.out); rintro e w66 ⟨v329, rfl, ho0, hb⟩; refine ⟨_, rfl, ?_⟩; have n0_ := Aside0.mk (Kd.R_below (by (with_reducible repeat (first | apply Kd.R_alloc | apply Kd.R_drewN | apply Kd.R_drew)); exact HO_6.out) hb); have n1_ := Aside0.mk (Kd.R_below (by (with_reducible repeat (first | apply Kd.R_alloc | apply Kd.R_drewN | apply Kd.R_drew)); exact HO_10.out) hb); have n2_ := Aside0.mk (Kd.R_lower ho0 (below_size (by repeat (first | (with_reducible first | exact HB.out | apply below_alloc | apply pw_below_drewN | apply below_drew1) | exact HB.out)))); have n3_ := Aside0.mk (below_step (by repeat (first | (with_reducible first | exact HB.out | apply below_alloc | apply pw_below_drewN | apply below_drew1) | exact HB.out)) hb); clear HO_6; clear HO_10; clear HB; have HO_6 := n0_; have HO_10 := n1_; have HO330 := n2_; have HB := n3_; clear n0_ n1_ n2_ n3_; (try clear hb); (try clear hb2); (try clear hk); (try clear hi); (try clear ho0)) | ((with_reducible refine gate_callee (f := 20) rfl ?_); refine goesL_ (some 96) rfl rfl Try.func20 (by kernel_rfl) rfl #[.slice A1 l1.length c1] rfl (by (try simp only [List.map_toArray, List.map_cons, List.map_nil]); first | done | rfl | (simp only [List.length_drop, List.length_take]; rfl)) ?_; (with_reducible refine (laws_toIntS.calls kj37 _ _ l1 t331 _ ?side1 ?side2 A61.out).mono ?_); (case side1 => repeat (first | exact (Kd.C_below HR1.out HB.out) | (with_reducible refine Kd.C_alloc ?_ _) | (with_reducible refine Kd.C_drewN ?_ _) | (with_reducible refine Kd.C_drew ?_))); (case side2 => exact HC1.out); rintro e w67 ⟨v332, rfl, ho0, hb⟩; refine ⟨_, rfl, ?_⟩; have n0_ := Aside0.mk (Kd.R_elder' (by (with_reducible repeat (first | apply Kd.R_alloc | apply Kd.R_drewN | apply Kd.R_drew)); exact HO_6.out) (Kd.R_base ho0) hb); have n1_ := Aside0.mk (Kd.R_elder' (by (with_reducible repeat (first | apply Kd.R_alloc | apply Kd.R_drewN | apply Kd.R_drew)); exact HO_10.out) (Kd.R_base ho0) hb); have n2_ := Aside0.mk (Kd.R_below (by (with_reducible repeat (first | apply Kd.R_alloc | apply Kd.R_drewN | apply Kd.R_drew)); exact HO330.out) hb); have n3_ := Aside0.mk (Kd.R_lower (Kd.R_new' (Kd.R_new' ho0 (Kd.R_lt (by (with_reducible repeat (first | apply Kd.R_alloc | apply Kd.R_drewN | apply Kd.R_drew)); exact HO_6.out))) (Kd.R_lt (by (with_reducible repeat (first | apply Kd.R_alloc | apply Kd.R_drewN | apply Kd.R_drew)); exact HO_10.out))) (below_size (by repeat (first | (with_reducible first | exact HB.out | apply below_alloc | apply pw_below_drewN | apply below_drew1) | exact HB.out)))); have n4_ := Aside0.mk (below_step (by repeat (first | (with_reducible first | exact HB.out | apply below_alloc | apply pw_below_drewN | apply below_drew1) | exact HB.out)) hb); clear HO_6; clear HO_10; clear HO330; clear HB; have HO_6 := n0_; have HO_10 := n1_; have HO330 := n2_; have HO333 := n3_; have HB := n4_; clear n0_ n1_ n2_ n3_ n4_; (try clear hb); (try clear hb2); (try clear hk); (try clear hi); (try clear ho0); obtain ⟨Ao68, co68, eo68⟩ := Kd.R_slice HO330.out; subst eo68; obtain ⟨Ao69, co69, eo69⟩ := Kd.R_slice HO333.out; subst eo69) | ((with_reducible refine gate_callee (f := 44) rfl ?_); refine goesL_ (some 97) rfl rfl Try.func44 (by kernel_rfl) rfl #[.slice Ao68 t328.length co68, .slice Ao69 t331.length co69] rfl (by (try simp only [List.map_toArray, List.map_cons, List.map_nil]); first | done | rfl | (simp only [List.length_drop, List.length_take]; rfl)) ?_; (with_reducible refine (impl_BestLoomPlan.calls _ _ t328 _ _ t331 t334 t335 _ ?side1 ?side2 ?side3 ?side4 A62.out).mono ?_); (case side1 => repeat (first | exact (Kd.R_reads' HO330.out).2.2 | (with_reducible refine Kd.C_alloc ?_ _) | (with_reducible refine Kd.C_drewN ?_ _) | (with_reducible refine Kd.C_drew ?_))); (case side2 => exact (Kd.R_reads' HO330.out).2.1); (case side3 => repeat (first | exact (Kd.R_reads' HO333.out).2.2 | (with_reducible refine Kd.C_alloc ?_ _) | (with_reducible refine Kd.C_drewN ?_ _) | (with_reducible refine Kd.C_drew ?_))); (case side4 => exact (Kd.R_reads' HO333.out).2.1); rintro e w70 ⟨v336, rfl, ho0, hb⟩; refine ⟨_, rfl, ?_⟩; have n0_ := Aside0.mk (Kd.R_elder' (by (with_reducible repeat (first | apply Kd.R_alloc | apply Kd.R_drewN | apply Kd.R_drew)); exact HO_6.out) (Kd.R_base ho0) hb); have n1_ := Aside0.mk (Kd.R_elder' (by (with_reducible repeat (first | apply Kd.R_alloc | apply Kd.R_drewN | apply Kd.R_drew)); exact HO_10.out) (Kd.R_base ho0) hb); have n2_ := Aside0.mk (Kd.R_below (by (with_reducible repeat (first | apply Kd.R_alloc | apply Kd.R_drewN | apply Kd.R_drew)); exact HO330.out) hb); have n3_ := Aside0.mk (Kd.R_elder' (by (with_reducible repeat (first | apply Kd.R_alloc | apply Kd.R_drewN | apply Kd.R_drew)); exact HO333.out) (Kd.R_base ho0) hb); have n4_ := Aside0.mk (Kd.R_lower (Kd.R_new' (Kd.R_new' (Kd.R_new' ho0 (Kd.R_lt (by (with_reducible repeat (first | apply Kd.R_alloc | apply Kd.R_drewN | apply Kd.R_drew)); exact HO_6.out))) (Kd.R_lt (by (with_reducible repeat (first | apply Kd.R_alloc | apply Kd.R_drewN | apply Kd.R_drew)); exact HO_10.out))) (Kd.R_lt (by (with_reducible repeat (first | apply Kd.R_alloc | apply Kd.R_drewN | apply Kd.R_drew)); exact HO333.out))) (below_size (by repeat (first | (with_reducible first | exact HB.out | apply below_alloc | apply pw_below_drewN | apply below_drew1) | exact HB.out)))); have n5_ := Aside0.mk (below_step (by repeat (first | (with_reducible first | exact HB.out | apply below_alloc | apply pw_below_drewN | apply below_drew1) | exact HB.out)) hb); clear HO_6; clear HO_10; clear HO330; clear HO333; clear HB; have HO_6 := n0_; have HO_10 := n1_; have HO330 := n2_; have HO333 := n3_; have HO337 := n4_; have HB := n5_; clear n0_ n1_ n2_ n3_ n4_ n5_; (try clear hb); (try clear hb2); (try clear hk); (try clear hi); (try clear ho0)))
             (try simp only [Act.put, List.setIfInBounds_toArray, List.set_cons_zero, List.set_cons_succ])
             go_cut [108] (fun v108 wc => ∃ (kq : Nat) (x108_62 : Bool), v108 = .bool x108_62 ∧ Aside0 (laws_FnExactBestLoomPlan.j2 kq t326 t325 x108_62 = some r) ∧ Aside0 (kq ≤ kj37) ∧ Aside0 (Kd.R (Kd.int .i64) 3 wc w.heap.size (fun _ => True) (.slice Ao64 t307.length co64) t326) ∧ Aside0 (Below w.heap.size w wc))
             case first =>
              have H := HC63.out
              clear HC63
              replace H := Option.bind_eq_some_iff.mp H
              obtain ⟨t338, A710, H⟩ := H
              have A71 := Aside0.mk A710
              clear A710
              by_cases c72 : t338 = true
              ·subst c72
               rw [if_pos rfl] at H
               have H' := Aside0.mk H
               clear H
               obtain ⟨Ao73, co73, eo73⟩ := Kd.R_slice HO337.out
               subst eo73
               obtain ⟨Ao74, co74, eo74⟩ := Kd.R_slice HO_6.out
               subst eo74
               go_wp2_with (first | ((with_reducible refine gate_callee (f := 22) rfl ?_); refine goesL_ (some 102) rfl rfl Try.func22 (by kernel_rfl) rfl #[.slice Ao73 t334.length co73, .slice Ao74 t297.length co74] rfl (by (try simp only [List.map_toArray, List.map_cons, List.map_nil]); first | done | rfl | (simp only [List.length_drop, List.length_take]; rfl)) ?_; (with_reducible refine (laws_eqIntS.calls kj37 _ _ t334 _ _ t297 true _ ?side1 ?side2 ?side3 ?side4 A71.out).mono ?_); (case side1 => repeat (first | exact (Kd.R_reads' HO337.out).2.2 | (with_reducible refine Kd.C_alloc ?_ _) | (with_reducible refine Kd.C_drewN ?_ _) | (with_reducible refine Kd.C_drew ?_))); (case side2 => exact (Kd.R_reads' HO337.out).2.1); (case side3 => repeat (first | exact (Kd.R_reads' HO_6.out).2.2 | (with_reducible refine Kd.C_alloc ?_ _) | (with_reducible refine Kd.C_drewN ?_ _) | (with_reducible refine Kd.C_drew ?_))); (case side4 => exact (Kd.R_reads' HO_6.out).2.1); rintro e w' ⟨rfl, ⟨nd, rfl⟩⟩; refine ⟨_, rfl, ?_⟩))
               go_meet
               case rel => exact ⟨_, ((t335 != t298)), (by first | rfl | (simp; done) | (simp [*]; done)), H', ⟨by have := HJ11.out; have := HJ37.out; first | omega | exact Nat.le_refl _⟩, ⟨by (with_reducible repeat (first | apply Kd.R_alloc | apply Kd.R_drewN | apply Kd.R_drew)); exact Kd.R_mono HO_10.out (fun _ hk => trivial)⟩, ⟨by repeat (first | (with_reducible first | exact HB.out | apply below_alloc | apply pw_below_drewN | apply below_drew1) | exact HB.out)⟩⟩
              ·replace c72 := Bool.eq_false_iff.mpr c72
               subst c72
               rw [if_neg (show ¬ (false = true) by decide)] at H
               have H' := Aside0.mk H
               clear H
               obtain ⟨Ao75, co75, eo75⟩ := Kd.R_slice HO337.out
               subst eo75
               obtain ⟨Ao76, co76, eo76⟩ := Kd.R_slice HO_6.out
               subst eo76
               go_wp2_with (first | ((with_reducible refine gate_callee (f := 22) rfl ?_); refine goesL_ (some 102) rfl rfl Try.func22 (by kernel_rfl) rfl #[.slice Ao75 t334.length co75, .slice Ao76 t297.length co76] rfl (by (try simp only [List.map_toArray, List.map_cons, List.map_nil]); first | done | rfl | (simp only [List.length_drop, List.length_take]; rfl)) ?_; (with_reducible refine (laws_eqIntS.calls kj37 _ _ t334 _ _ t297 false _ ?side1 ?side2 ?side3 ?side4 A71.out).mono ?_); (case side1 => repeat (first | exact (Kd.R_reads' HO337.out).2.2 | (with_reducible refine Kd.C_alloc ?_ _) | (with_reducible refine Kd.C_drewN ?_ _) | (with_reducible refine Kd.C_drew ?_))); (case side2 => exact (Kd.R_reads' HO337.out).2.1); (case side3 => repeat (first | exact (Kd.R_reads' HO_6.out).2.2 | (with_reducible refine Kd.C_alloc ?_ _) | (with_reducible refine Kd.C_drewN ?_ _) | (with_reducible refine Kd.C_drew ?_))); (case side4 => exact (Kd.R_reads' HO_6.out).2.1); rintro e w' ⟨rfl, ⟨nd, rfl⟩⟩; refine ⟨_, rfl, ?_⟩))
               go_meet
               case rel => exact ⟨_, (true), (by first | rfl | (simp; done) | (simp [*]; done)), H', ⟨by have := HJ11.out; have := HJ37.out; first | omega | exact Nat.le_refl _⟩, ⟨by (with_reducible repeat (first | apply Kd.R_alloc | apply Kd.R_drewN | apply Kd.R_drew)); exact Kd.R_mono HO_10.out (fun _ hk => trivial)⟩, ⟨by repeat (first | (with_reducible first | exact HB.out | apply below_alloc | apply pw_below_drewN | apply below_drew1) | exact HB.out)⟩⟩
             case rest =>
              clear HC63
              try clear c1
              try clear c2
              try clear p2
              try clear c3
              try clear c3b0
              try clear c3b1
              try clear c4
              try clear c5
              try clear c5b0
              try clear p6
              try clear c7
              try clear c12
              try clear c14
              try clear c16
              try clear c18
              try clear c20
              try clear c22
              try clear c24
              try clear c25
              try clear c26
              try clear c27
              try clear c29
              try clear c32
              try clear c35
              try clear c43
              try clear c44
              try clear c46
              try clear c46b0
              try clear c48
              try clear c53
              try clear c56
              try clear c56b0
              try clear c59
              try clear c59b0
              try clear c59b1
              try clear p64
              try clear c72
              try clear p2
              try clear p6
              obtain ⟨kq, x108_62, rfl, HA, HJ62, HO_10, HB⟩ := hcut
              have hl10_62 := (Kd.R_reads' HO_10.out).1
              rw [hl10_62] at HO_10
              (try simp only [hl10_62])
              cases kq with
              | zero => exact absurd HA.out (by simp [laws_FnExactBestLoomPlan.j2])
              | succ kj62 =>
               have H := HA.out
               clear HA
               simp only [laws_FnExactBestLoomPlan.j2] at H
               by_cases c77 : x108_62 = true
               ·subst c77
                rw [if_pos rfl] at H
                obtain rfl := Option.some.inj H
                go_wp2
                go_ret
                exact ⟨by first | rfl | (simp [errW_none, errW_some] <;> rfl) | (simp [*, errW_none, errW_some] <;> rfl) | (simp [wrap64]; done), by repeat (first | (with_reducible first | exact HB.out | apply below_alloc | apply pw_below_drewN | apply below_drew1) | exact HB.out)⟩
               ·replace c77 := Bool.eq_false_iff.mpr c77
                subst c77
                rw [if_neg (show ¬ (false = true) by decide)] at H
                replace H := Option.bind_eq_some_iff.mp H
                obtain ⟨t339, A780, H⟩ := H
                have A78 := Aside0.mk A780
                clear A780
                by_cases c79 : t339 < 0
                ·rw [if_pos c79] at H
                 have c79b0 : decide (t339 < 0) = true := decide_eq_true c79
                 clear c79
                 obtain rfl := Option.some.inj H
                 go_wp2_with (first | ((with_reducible refine gate_callee (f := 27) rfl ?_); refine goesL_ (some 111) rfl rfl Try.func27 (by kernel_rfl) rfl #[.slice Ao64 t326.length co64, .int .i64 1] rfl (by (try simp only [List.map_toArray, List.map_cons, List.map_nil]); first | done | rfl | (simp only [List.length_drop, List.length_take]; rfl)) ?_; (with_reducible refine (laws_heldIntS.calls kj62 _ _ t326 1 t339 _ ?side1 ?side2 A78.out).mono ?_); (case side1 => repeat (first | exact (Kd.R_reads' HO_10.out).2.2 | (with_reducible refine Kd.C_alloc ?_ _) | (with_reducible refine Kd.C_drewN ?_ _) | (with_reducible refine Kd.C_drew ?_))); (case side2 => exact (Kd.R_reads' HO_10.out).2.1); rintro e w' ⟨rfl, ⟨nd, rfl⟩⟩; refine ⟨_, rfl, ?_⟩))
                 go_ret
                 exact ⟨by first | rfl | (simp [errW_none, errW_some] <;> rfl) | (simp [*, errW_none, errW_some] <;> rfl) | (simp [wrap64]; done), by repeat (first | (with_reducible first | exact HB.out | apply below_alloc | apply pw_below_drewN | apply below_drew1) | exact HB.out)⟩
                ·rw [if_neg c79] at H
                 have c79b0 : decide (t339 < 0) = false := decide_eq_false c79
                 clear c79
                 by_cases c80 : t339 = t325
                 ·rw [if_pos c80] at H
                  have c80b0 : (t339 == t325) = true := beq_iff_eq.mpr c80
                  have c80b1 : (t339 != t325) = false := bne_eq_false_iff_eq.mpr c80
                  clear c80
                  obtain rfl := Option.some.inj H
                  go_wp2_with (first | ((with_reducible refine gate_callee (f := 27) rfl ?_); refine goesL_ (some 111) rfl rfl Try.func27 (by kernel_rfl) rfl #[.slice Ao64 t326.length co64, .int .i64 1] rfl (by (try simp only [List.map_toArray, List.map_cons, List.map_nil]); first | done | rfl | (simp only [List.length_drop, List.length_take]; rfl)) ?_; (with_reducible refine (laws_heldIntS.calls kj62 _ _ t326 1 t339 _ ?side1 ?side2 A78.out).mono ?_); (case side1 => repeat (first | exact (Kd.R_reads' HO_10.out).2.2 | (with_reducible refine Kd.C_alloc ?_ _) | (with_reducible refine Kd.C_drewN ?_ _) | (with_reducible refine Kd.C_drew ?_))); (case side2 => exact (Kd.R_reads' HO_10.out).2.1); rintro e w' ⟨rfl, ⟨nd, rfl⟩⟩; refine ⟨_, rfl, ?_⟩))
                  go_ret
                  exact ⟨by first | rfl | (simp [errW_none, errW_some] <;> rfl) | (simp [*, errW_none, errW_some] <;> rfl) | (simp [wrap64]; done), by repeat (first | (with_reducible first | exact HB.out | apply below_alloc | apply pw_below_drewN | apply below_drew1) | exact HB.out)⟩
                 ·rw [if_neg c80] at H
                  have c80b0 : (t339 == t325) = false := beq_eq_false_iff_ne.mpr c80
                  have c80b1 : (t339 != t325) = true := bne_iff_ne.mpr c80
                  obtain rfl := Option.some.inj H
                  go_wp2_with (first | ((with_reducible refine gate_callee (f := 27) rfl ?_); refine goesL_ (some 111) rfl rfl Try.func27 (by kernel_rfl) rfl #[.slice Ao64 t326.length co64, .int .i64 1] rfl (by (try simp only [List.map_toArray, List.map_cons, List.map_nil]); first | done | rfl | (simp only [List.length_drop, List.length_take]; rfl)) ?_; (with_reducible refine (laws_heldIntS.calls kj62 _ _ t326 1 t339 _ ?side1 ?side2 A78.out).mono ?_); (case side1 => repeat (first | exact (Kd.R_reads' HO_10.out).2.2 | (with_reducible refine Kd.C_alloc ?_ _) | (with_reducible refine Kd.C_drewN ?_ _) | (with_reducible refine Kd.C_drew ?_))); (case side2 => exact (Kd.R_reads' HO_10.out).2.1); rintro e w' ⟨rfl, ⟨nd, rfl⟩⟩; refine ⟨_, rfl, ?_⟩))
                  go_ret
                  exact ⟨by first | rfl | (simp [errW_none, errW_some] <;> rfl) | (simp [*, errW_none, errW_some] <;> rfl) | (simp [wrap64]; done), by repeat (first | (with_reducible first | exact HB.out | apply below_alloc | apply pw_below_drewN | apply below_drew1) | exact HB.out)⟩
            ·rw [if_neg c59] at H
             have c59b0 : (t327 == t325) = false := beq_eq_false_iff_ne.mpr c59
             have c59b1 : (t327 != t325) = true := bne_iff_ne.mpr c59
             obtain rfl := Option.some.inj H
             obtain ⟨Ao81, co81, eo81⟩ := Kd.R_slice HO_10.out
             subst eo81
             go_wp2_with (first | ((with_reducible refine gate_callee (f := 26) rfl ?_); refine goesL_ (some 83) rfl rfl Try.func26 (by kernel_rfl) rfl #[.slice Ao81 t307.length co81, .int .i64 1] rfl (by (try simp only [List.map_toArray, List.map_cons, List.map_nil]); first | done | rfl | (simp only [List.length_drop, List.length_take]; rfl)) ?_; (with_reducible refine (laws_markIntS.calls kj37 (fun k_ => some k_ = (.slice Ao81 t307.length co81 : Value).ownBlock) (.slice Ao81 t307.length co81) t307 1 t325 t326 w _ ?side1 ?side2 A54.out).mono ?_); (case side1 => repeat (first | (with_reducible first | exact HB.out | apply below_alloc | apply pw_below_drewN | apply below_drew1) | exact HB.out)); (case side2 => exact Kd.R_tight rfl HO_10.out); rintro e w82 ⟨rfl, hy0, hb, hkp⟩; refine ⟨_, rfl, ?_⟩; have n0_ := Aside0.mk (Kd.R_mono (ok' := fun k_ => some k_ ≠ (.slice Ao81 t307.length co81 : Value).ownBlock) (Kd.R_keptB (HO_6.out) hkp (fun k_ hk_ hs_ => (hk_) hs_)) (fun k_ hk_ => hk_.1)); have n1_ := Aside0.mk (Kd.R_reok rfl hy0 (fun k_ e_ => HO_10.out.1 k_ e_)); have n2_ := Aside0.mk (hb); clear HO_6; clear HO_10; clear HB; have HO_6 := n0_; have HO_10 := n1_; have HB := n2_; clear n0_ n1_ n2_; (try clear hb); (try clear hkp); (try clear hy0)) | ((with_reducible refine gate_callee (f := 27) rfl ?_); refine goesL_ (some 86) rfl rfl Try.func27 (by kernel_rfl) rfl #[.slice Ao81 t326.length co81, .int .i64 1] rfl (by (try simp only [List.map_toArray, List.map_cons, List.map_nil]); first | done | (rw [show t326.length = t307.length from (Kd.R_reads' HO_10.out).1.symm] <;> rfl) | rfl | (simp only [List.length_drop, List.length_take]; rfl)) ?_; (with_reducible refine (laws_heldIntS.calls kj37 _ _ t326 1 t327 _ ?side1 ?side2 A55.out).mono ?_); (case side1 => repeat (first | exact (Kd.R_reads' HO_10.out).2.2 | (with_reducible refine Kd.C_alloc ?_ _) | (with_reducible refine Kd.C_drewN ?_ _) | (with_reducible refine Kd.C_drew ?_))); (case side2 => rw [show t326.length = t307.length from (Kd.R_reads' HO_10.out).1.symm]; exact (Kd.R_reads' HO_10.out).2.1); rintro e w' ⟨rfl, ⟨nd, rfl⟩⟩; refine ⟨_, rfl, ?_⟩))
             go_ret
             exact ⟨by first | rfl | (simp [errW_none, errW_some] <;> rfl) | (simp [*, errW_none, errW_some] <;> rfl) | (simp [wrap64]; done), by repeat (first | (with_reducible first | exact HB.out | apply below_alloc | apply pw_below_drewN | apply below_drew1) | exact HB.out)⟩
       ·replace c35 := Bool.eq_false_iff.mpr c35
        subst c35
        rw [if_neg (show ¬ (false = true) by decide)] at H
        obtain rfl := Option.some.inj H
        go_wp2_with (first | ((with_reducible refine gate_callee (f := 16) rfl ?_); refine goesL_ (some 54) rfl rfl Try.func16 (by kernel_rfl) rfl #[.slice A0 l0.length c0] rfl (by (try simp only [List.map_toArray, List.map_cons, List.map_nil]); first | done | rfl | (simp only [List.length_drop, List.length_take]; rfl)) ?_; (with_reducible refine (laws_toLoomJobS.calls kj11 _ _ l0 t312 _ ?side1 ?side2 A30.out).mono ?_); (case side1 => repeat (first | exact (Kd.C_below HR0.out HB.out) | (with_reducible refine Kd.C_alloc ?_ _) | (with_reducible refine Kd.C_drewN ?_ _) | (with_reducible refine Kd.C_drew ?_))); (case side2 => exact HC0.out); rintro e w83 ⟨v313, rfl, ho0, hb⟩; refine ⟨_, rfl, ?_⟩; have n0_ := Aside0.mk (Kd.R_below (by (with_reducible repeat (first | apply Kd.R_alloc | apply Kd.R_drewN | apply Kd.R_drew)); exact HO_6.out) hb); have n1_ := Aside0.mk (Kd.R_elder' (by (with_reducible repeat (first | apply Kd.R_alloc | apply Kd.R_drewN | apply Kd.R_drew)); exact HO_8.out) (Kd.R_base ho0) hb); have n2_ := Aside0.mk (Kd.R_below (by (with_reducible repeat (first | apply Kd.R_alloc | apply Kd.R_drewN | apply Kd.R_drew)); exact HO_9.out) hb); have n3_ := Aside0.mk (Kd.R_below (by (with_reducible repeat (first | apply Kd.R_alloc | apply Kd.R_drewN | apply Kd.R_drew)); exact HO_10.out) hb); have n4_ := Aside0.mk (Kd.R_lower (Kd.R_new' ho0 (Kd.R_lt (by (with_reducible repeat (first | apply Kd.R_alloc | apply Kd.R_drewN | apply Kd.R_drew)); exact HO_8.out))) (below_size (by repeat (first | (with_reducible first | exact HB.out | apply below_alloc | apply pw_below_drewN | apply below_drew1) | exact HB.out)))); have n5_ := Aside0.mk (below_step (by repeat (first | (with_reducible first | exact HB.out | apply below_alloc | apply pw_below_drewN | apply below_drew1) | exact HB.out)) hb); clear HO_6; clear HO_8; clear HO_9; clear HO_10; clear HB; have HO_6 := n0_; have HO_8 := n1_; have HO_9 := n2_; have HO_10 := n3_; have HO314 := n4_; have HB := n5_; clear n0_ n1_ n2_ n3_ n4_ n5_; (try clear hb); (try clear hb2); (try clear hk); (try clear hi); (try clear ho0); obtain ⟨Ao84, co84, eo84⟩ := Kd.R_slice HO314.out; subst eo84) | ((with_reducible refine gate_callee (f := 18) rfl ?_); refine goesL_ (some 55) rfl rfl Try.func18 (by kernel_rfl) rfl #[.slice Ao20 t301.length co20, .slice Ao84 t312.length co84] rfl (by (try simp only [List.map_toArray, List.map_cons, List.map_nil]); first | done | rfl | (simp only [List.length_drop, List.length_take]; rfl)) ?_; (with_reducible refine (laws_eqLoomJobS.calls kj11 _ _ t301 _ _ t312 true _ ?side1 ?side2 ?side3 ?side4 A31.out).mono ?_); (case side1 => repeat (first | exact (Kd.R_reads' HO_8.out).2.2 | (with_reducible refine Kd.C_alloc ?_ _) | (with_reducible refine Kd.C_drewN ?_ _) | (with_reducible refine Kd.C_drew ?_))); (case side2 => exact (Kd.R_reads' HO_8.out).2.1); (case side3 => repeat (first | exact (Kd.R_reads' HO314.out).2.2 | (with_reducible refine Kd.C_alloc ?_ _) | (with_reducible refine Kd.C_drewN ?_ _) | (with_reducible refine Kd.C_drew ?_))); (case side4 => exact (Kd.R_reads' HO314.out).2.1); rintro e w85 ⟨rfl, hb⟩; refine ⟨_, rfl, ?_⟩; have n0_ := Aside0.mk (Kd.R_below (by (with_reducible repeat (first | apply Kd.R_alloc | apply Kd.R_drewN | apply Kd.R_drew)); exact HO_6.out) hb); have n1_ := Aside0.mk (Kd.R_below (by (with_reducible repeat (first | apply Kd.R_alloc | apply Kd.R_drewN | apply Kd.R_drew)); exact HO_8.out) hb); have n2_ := Aside0.mk (Kd.R_below (by (with_reducible repeat (first | apply Kd.R_alloc | apply Kd.R_drewN | apply Kd.R_drew)); exact HO_9.out) hb); have n3_ := Aside0.mk (Kd.R_below (by (with_reducible repeat (first | apply Kd.R_alloc | apply Kd.R_drewN | apply Kd.R_drew)); exact HO_10.out) hb); have n4_ := Aside0.mk (Kd.R_below (by (with_reducible repeat (first | apply Kd.R_alloc | apply Kd.R_drewN | apply Kd.R_drew)); exact HO314.out) hb); have n5_ := Aside0.mk (below_step (by repeat (first | (with_reducible first | exact HB.out | apply below_alloc | apply pw_below_drewN | apply below_drew1) | exact HB.out)) hb); clear HO_6; clear HO_8; clear HO_9; clear HO_10; clear HO314; clear HB; have HO_6 := n0_; have HO_8 := n1_; have HO_9 := n2_; have HO_10 := n3_; have HO314 := n4_; have HB := n5_; clear n0_ n1_ n2_ n3_ n4_ n5_; (try clear hb); (try clear hb2); (try clear hk); (try clear hi)) | ((with_reducible refine gate_callee (f := 20) rfl ?_); refine goesL_ (some 59) rfl rfl Try.func20 (by kernel_rfl) rfl #[.slice A1 l1.length c1] rfl (by (try simp only [List.map_toArray, List.map_cons, List.map_nil]); first | done | rfl | (simp only [List.length_drop, List.length_take]; rfl)) ?_; (with_reducible refine (laws_toIntS.calls kj11 _ _ l1 t316 _ ?side1 ?side2 A33.out).mono ?_); (case side1 => repeat (first | exact (Kd.C_below HR1.out HB.out) | (with_reducible refine Kd.C_alloc ?_ _) | (with_reducible refine Kd.C_drewN ?_ _) | (with_reducible refine Kd.C_drew ?_))); (case side2 => exact HC1.out); rintro e w86 ⟨v317, rfl, ho0, hb⟩; refine ⟨_, rfl, ?_⟩; have n0_ := Aside0.mk (Kd.R_elder' (by (with_reducible repeat (first | apply Kd.R_alloc | apply Kd.R_drewN | apply Kd.R_drew)); exact HO_6.out) (Kd.R_base ho0) hb); have n1_ := Aside0.mk (Kd.R_below (by (with_reducible repeat (first | apply Kd.R_alloc | apply Kd.R_drewN | apply Kd.R_drew)); exact HO_8.out) hb); have n2_ := Aside0.mk (Kd.R_elder' (by (with_reducible repeat (first | apply Kd.R_alloc | apply Kd.R_drewN | apply Kd.R_drew)); exact HO_9.out) (Kd.R_base ho0) hb); have n3_ := Aside0.mk (Kd.R_elder' (by (with_reducible repeat (first | apply Kd.R_alloc | apply Kd.R_drewN | apply Kd.R_drew)); exact HO_10.out) (Kd.R_base ho0) hb); have n4_ := Aside0.mk (Kd.R_below (by (with_reducible repeat (first | apply Kd.R_alloc | apply Kd.R_drewN | apply Kd.R_drew)); exact HO314.out) hb); have n5_ := Aside0.mk (Kd.R_lower (Kd.R_new' (Kd.R_new' (Kd.R_new' ho0 (Kd.R_lt (by (with_reducible repeat (first | apply Kd.R_alloc | apply Kd.R_drewN | apply Kd.R_drew)); exact HO_6.out))) (Kd.R_lt (by (with_reducible repeat (first | apply Kd.R_alloc | apply Kd.R_drewN | apply Kd.R_drew)); exact HO_9.out))) (Kd.R_lt (by (with_reducible repeat (first | apply Kd.R_alloc | apply Kd.R_drewN | apply Kd.R_drew)); exact HO_10.out))) (below_size (by repeat (first | (with_reducible first | exact HB.out | apply below_alloc | apply pw_below_drewN | apply below_drew1) | exact HB.out)))); have n6_ := Aside0.mk (below_step (by repeat (first | (with_reducible first | exact HB.out | apply below_alloc | apply pw_below_drewN | apply below_drew1) | exact HB.out)) hb); clear HO_6; clear HO_8; clear HO_9; clear HO_10; clear HO314; clear HB; have HO_6 := n0_; have HO_8 := n1_; have HO_9 := n2_; have HO_10 := n3_; have HO314 := n4_; have HO318 := n5_; have HB := n6_; clear n0_ n1_ n2_ n3_ n4_ n5_ n6_; (try clear hb); (try clear hb2); (try clear hk); (try clear hi); (try clear ho0); obtain ⟨Ao87, co87, eo87⟩ := Kd.R_slice HO318.out; subst eo87) | ((with_reducible refine gate_callee (f := 22) rfl ?_); refine goesL_ (some 60) rfl rfl Try.func22 (by kernel_rfl) rfl #[.slice Ao21 t304.length co21, .slice Ao87 t316.length co87] rfl (by (try simp only [List.map_toArray, List.map_cons, List.map_nil]); first | done | rfl | (simp only [List.length_drop, List.length_take]; rfl)) ?_; (with_reducible refine (laws_eqIntS.calls kj11 _ _ t304 _ _ t316 false _ ?side1 ?side2 ?side3 ?side4 A34.out).mono ?_); (case side1 => repeat (first | exact (Kd.R_reads' HO_9.out).2.2 | (with_reducible refine Kd.C_alloc ?_ _) | (with_reducible refine Kd.C_drewN ?_ _) | (with_reducible refine Kd.C_drew ?_))); (case side2 => exact (Kd.R_reads' HO_9.out).2.1); (case side3 => repeat (first | exact (Kd.R_reads' HO318.out).2.2 | (with_reducible refine Kd.C_alloc ?_ _) | (with_reducible refine Kd.C_drewN ?_ _) | (with_reducible refine Kd.C_drew ?_))); (case side4 => exact (Kd.R_reads' HO318.out).2.1); rintro e w' ⟨rfl, ⟨nd, rfl⟩⟩; refine ⟨_, rfl, ?_⟩))
        go_ret
        exact ⟨by first | rfl | (simp [errW_none, errW_some] <;> rfl) | (simp [*, errW_none, errW_some] <;> rfl) | (simp [wrap64]; done), by repeat (first | (with_reducible first | exact HB.out | apply below_alloc | apply pw_below_drewN | apply below_drew1) | exact HB.out)⟩
      ·replace c32 := Bool.eq_false_iff.mpr c32
       subst c32
       rw [if_neg (show ¬ (false = true) by decide)] at H
       obtain rfl := Option.some.inj H
       go_wp2_with (first | ((with_reducible refine gate_callee (f := 16) rfl ?_); refine goesL_ (some 54) rfl rfl Try.func16 (by kernel_rfl) rfl #[.slice A0 l0.length c0] rfl (by (try simp only [List.map_toArray, List.map_cons, List.map_nil]); first | done | rfl | (simp only [List.length_drop, List.length_take]; rfl)) ?_; (with_reducible refine (laws_toLoomJobS.calls kj11 _ _ l0 t312 _ ?side1 ?side2 A30.out).mono ?_); (case side1 => repeat (first | exact (Kd.C_below HR0.out HB.out) | (with_reducible refine Kd.C_alloc ?_ _) | (with_reducible refine Kd.C_drewN ?_ _) | (with_reducible refine Kd.C_drew ?_))); (case side2 => exact HC0.out); rintro e w88 ⟨v313, rfl, ho0, hb⟩; refine ⟨_, rfl, ?_⟩; have n0_ := Aside0.mk (Kd.R_below (by (with_reducible repeat (first | apply Kd.R_alloc | apply Kd.R_drewN | apply Kd.R_drew)); exact HO_6.out) hb); have n1_ := Aside0.mk (Kd.R_elder' (by (with_reducible repeat (first | apply Kd.R_alloc | apply Kd.R_drewN | apply Kd.R_drew)); exact HO_8.out) (Kd.R_base ho0) hb); have n2_ := Aside0.mk (Kd.R_below (by (with_reducible repeat (first | apply Kd.R_alloc | apply Kd.R_drewN | apply Kd.R_drew)); exact HO_9.out) hb); have n3_ := Aside0.mk (Kd.R_below (by (with_reducible repeat (first | apply Kd.R_alloc | apply Kd.R_drewN | apply Kd.R_drew)); exact HO_10.out) hb); have n4_ := Aside0.mk (Kd.R_lower (Kd.R_new' ho0 (Kd.R_lt (by (with_reducible repeat (first | apply Kd.R_alloc | apply Kd.R_drewN | apply Kd.R_drew)); exact HO_8.out))) (below_size (by repeat (first | (with_reducible first | exact HB.out | apply below_alloc | apply pw_below_drewN | apply below_drew1) | exact HB.out)))); have n5_ := Aside0.mk (below_step (by repeat (first | (with_reducible first | exact HB.out | apply below_alloc | apply pw_below_drewN | apply below_drew1) | exact HB.out)) hb); clear HO_6; clear HO_8; clear HO_9; clear HO_10; clear HB; have HO_6 := n0_; have HO_8 := n1_; have HO_9 := n2_; have HO_10 := n3_; have HO314 := n4_; have HB := n5_; clear n0_ n1_ n2_ n3_ n4_ n5_; (try clear hb); (try clear hb2); (try clear hk); (try clear hi); (try clear ho0); obtain ⟨Ao89, co89, eo89⟩ := Kd.R_slice HO314.out; subst eo89) | ((with_reducible refine gate_callee (f := 18) rfl ?_); refine goesL_ (some 55) rfl rfl Try.func18 (by kernel_rfl) rfl #[.slice Ao20 t301.length co20, .slice Ao89 t312.length co89] rfl (by (try simp only [List.map_toArray, List.map_cons, List.map_nil]); first | done | rfl | (simp only [List.length_drop, List.length_take]; rfl)) ?_; (with_reducible refine (laws_eqLoomJobS.calls kj11 _ _ t301 _ _ t312 false _ ?side1 ?side2 ?side3 ?side4 A31.out).mono ?_); (case side1 => repeat (first | exact (Kd.R_reads' HO_8.out).2.2 | (with_reducible refine Kd.C_alloc ?_ _) | (with_reducible refine Kd.C_drewN ?_ _) | (with_reducible refine Kd.C_drew ?_))); (case side2 => exact (Kd.R_reads' HO_8.out).2.1); (case side3 => repeat (first | exact (Kd.R_reads' HO314.out).2.2 | (with_reducible refine Kd.C_alloc ?_ _) | (with_reducible refine Kd.C_drewN ?_ _) | (with_reducible refine Kd.C_drew ?_))); (case side4 => exact (Kd.R_reads' HO314.out).2.1); rintro e w90 ⟨rfl, hb⟩; refine ⟨_, rfl, ?_⟩; have n0_ := Aside0.mk (Kd.R_below (by (with_reducible repeat (first | apply Kd.R_alloc | apply Kd.R_drewN | apply Kd.R_drew)); exact HO_6.out) hb); have n1_ := Aside0.mk (Kd.R_below (by (with_reducible repeat (first | apply Kd.R_alloc | apply Kd.R_drewN | apply Kd.R_drew)); exact HO_8.out) hb); have n2_ := Aside0.mk (Kd.R_below (by (with_reducible repeat (first | apply Kd.R_alloc | apply Kd.R_drewN | apply Kd.R_drew)); exact HO_9.out) hb); have n3_ := Aside0.mk (Kd.R_below (by (with_reducible repeat (first | apply Kd.R_alloc | apply Kd.R_drewN | apply Kd.R_drew)); exact HO_10.out) hb); have n4_ := Aside0.mk (Kd.R_below (by (with_reducible repeat (first | apply Kd.R_alloc | apply Kd.R_drewN | apply Kd.R_drew)); exact HO314.out) hb); have n5_ := Aside0.mk (below_step (by repeat (first | (with_reducible first | exact HB.out | apply below_alloc | apply pw_below_drewN | apply below_drew1) | exact HB.out)) hb); clear HO_6; clear HO_8; clear HO_9; clear HO_10; clear HO314; clear HB; have HO_6 := n0_; have HO_8 := n1_; have HO_9 := n2_; have HO_10 := n3_; have HO314 := n4_; have HB := n5_; clear n0_ n1_ n2_ n3_ n4_ n5_; (try clear hb); (try clear hb2); (try clear hk); (try clear hi)))
       go_ret
       exact ⟨by first | rfl | (simp [errW_none, errW_some] <;> rfl) | (simp [*, errW_none, errW_some] <;> rfl) | (simp [wrap64]; done), by repeat (first | (with_reducible first | exact HB.out | apply below_alloc | apply pw_below_drewN | apply below_drew1) | exact HB.out)⟩

end Go.Proofs.Ytcgpibbbkdhpeaa.Q

namespace Go.Proofs.YtcgpibbbkdhpeaaW.Open
open Go.ChangeShapes Go.WideShapes Go.Deep Go.Proofs.YtcgpibbbkdhpeaaW.PrintWords

/-- Whatever reads as data of type t lies in memory as a value of kind d that is good. -/
structure Opn {α : Type} (P : Program) (d : Kd α) (t : TypeId) (good : α → Prop) : Prop where
  out : ∀ {H : Type} {enc : TypeId × Value → H} {w : World} {base : Nat} {spare : Nat → Bool} {held : Bool} {fuel : Nat} {cs : List Value} {x : DataW H × List MemPlace},
    DataW.trod enc P w base spare held fuel t cs = some x → ∃ a, d.K w a cs ∧ good a

/-- One for each place: a list of them. -/
theorem list_of {α : Type} {Q : Nat → α → Prop} : ∀ {len : Nat}, (∀ i, i < len → ∃ p : α, Q i p) → ∃ l : List α, l.length = len ∧ ∀ i p, l[i]? = some p → Q i p
  | 0, _ => ⟨[], rfl, by simp⟩
  | n + 1, h => by
    obtain ⟨l, hl1, hl2⟩ := list_of (len := n) (fun i hi => h i (by omega))
    obtain ⟨p, hp⟩ := h n (by omega)
    refine ⟨l ++ [p], by simp [hl1], fun i q hq => ?_⟩
    by_cases hil : i < n
    · rw [List.getElem?_append_left (by omega)] at hq
      exact hl2 i q hq
    · have hin : i = n := by
        have := (List.getElem?_eq_some_iff.1 hq).1
        simp [hl1] at this
        omega
      subst hin
      rw [List.getElem?_append_right (by omega)] at hq
      simp [hl1] at hq
      subst hq
      exact hp

section
variable {P : Program}
theorem Opn.int {t : TypeId} {k : IntKind} (ht : P.underlying t = some (.int k)) : Opn P (Kd.int k) t (fun n => (Lit.int k n).wf = true) := by
  constructor; intro H enc w base spare held fuel cs x h
  cases fuel with
  | zero => simp [DataW.trod] at h
  | succ m =>
    unfold DataW.trod at h
    rw [ht] at h
    split at h <;> simp_all
    exact ⟨_, rfl, by simp_all⟩
theorem Opn.bool {t : TypeId} (ht : P.underlying t = some .bool) : Opn P Kd.bool t (fun _ => True) := by
  constructor; intro H enc w base spare held fuel cs x h
  cases fuel with
  | zero => simp [DataW.trod] at h
  | succ m =>
    unfold DataW.trod at h
    rw [ht] at h
    split at h
    all_goals first | exact ⟨_, rfl, trivial⟩ | simp_all
theorem Opn.slice {α : Type} {d : Kd α} {t e : TypeId} {g : α → Prop} (ht : P.underlying t = some (.slice e)) {n0 : Nat} (hc0 : P.cellsOf e = n0) (hs0 : d.sz = n0) (he : Opn P d e g) :
    Opn P (Kd.slice e d) t (fun l => l.length ≤ maxLen ∧ ∀ x ∈ l, g x) := by
  have hc : P.cellsOf e = d.sz := hc0.trans hs0.symm
  constructor; intro H enc w base spare held fuel cs x h
  rcases open_slice ht h with ⟨rfl, _⟩ | ⟨a, len, cap, m, n, D, Pl, rfl, _, hl, hm, hmm, _, hi⟩
  · exact ⟨[], ⟨none, 0, rfl, Nat.le_refl _, rfl, by simp, fun h => absurd h (by simp)⟩, by simp, by simp⟩
  · have hlm : len ≤ m := by rw [hmm]; split <;> omega
    have hone : ∀ i, i < len → ∃ p : α, g p ∧ ∃ c, c.length = d.sz ∧ d.K w p c ∧ ∀ j u, c[j]? = some u → w.cell? (a.add (i * d.sz + j)) = some u := by
      intro i hil
      obtain ⟨cs', hcs, htr⟩ := hi i (by omega)
      obtain ⟨p, hp, hg⟩ := he.out htr
      obtain ⟨_, hlen, hat⟩ := World.cells?_some hcs
      refine ⟨p, hg, cs', hlen.trans hc, hp, fun j u hj => ?_⟩
      have hjl : j < P.cellsOf e := by have := (List.getElem?_eq_some_iff.1 hj).1; omega
      have := hat j hjl
      rw [hc] at this
      rw [← Go.Deep.add_add, this, hj]
    have hall := list_of hone
    obtain ⟨l, rfl, hl2⟩ := hall
    refine ⟨l, ⟨some a, cap, rfl, hl, rfl, by unfold maxLen at hm; omega, fun _ => ⟨a, rfl, fun j p hj => (hl2 j p hj).2⟩⟩, by omega, fun x hx => ?_⟩
    obtain ⟨i, hi, rfl⟩ := List.getElem_of_mem hx
    exact (hl2 i _ (List.getElem?_eq_getElem hi)).1
theorem Opn.iso {α β : Type} {d : Kd α} {t : TypeId} {g : α → Prop} (f : β → α) (b : α → β) (hfb : ∀ a, f (b a) = a) (h : Opn P d t g) : Opn P (Kd.iso d f) t (fun x => g (f x)) := by
  constructor; intro H enc w base spare held fuel cs x hx
  obtain ⟨a, hk, hg⟩ := h.out hx
  exact ⟨b a, by show d.K w (f (b a)) cs; rw [hfb]; exact hk, by show g (f (b a)); rw [hfb]; exact hg⟩

def andG {α β : Type} (g : α → Prop) (gs : β → Prop) : α × β → Prop := fun x => g x.1 ∧ gs x.2
/-- The fields of a struct, from one on. -/
structure OpnF {α : Type} (P : Program) (d : Kd α) (off : Nat) (fs : List Field) (good : α → Prop) : Prop where
  out : ∀ {H : Type} {enc : TypeId × Value → H} {w : World} {base : Nat} {spare : Nat → Bool} {held : Bool} {fuel : Nat} {cs : List Value},
    cs.length = off + d.sz → (∀ f ∈ fs, ∃ y, DataW.trod enc P w base spare held fuel f.type ((cs.drop f.offset).take (P.cellsOf f.type)) = some y) → ∃ a, d.K w a (cs.drop off) ∧ good a
theorem OpnF.one {α : Type} {d : Kd α} {f : Field} {g : α → Prop} {off : Nat} (ho : f.offset = off) {n0 : Nat} (hc0 : P.cellsOf f.type = n0) (hs0 : d.sz = n0) (h : Opn P d f.type g) : OpnF P d off [f] g := by
  have hc : P.cellsOf f.type = d.sz := hc0.trans hs0.symm
  constructor; intro H enc w base spare held fuel cs hl hf
  obtain ⟨y, hy⟩ := hf f (by simp)
  rw [ho, hc, List.take_of_length_le (by simp; omega)] at hy
  exact h.out hy
theorem OpnF.cons {α β : Type} {d : Kd α} {ds : Kd β} {f : Field} {fs : List Field} {g : α → Prop} {gs : β → Prop} {off : Nat} (ho : f.offset = off) {n0 : Nat} (hc0 : P.cellsOf f.type = n0) (hs0 : d.sz = n0) (h : Opn P d f.type g) (hs : OpnF P ds (off + d.sz) fs gs) :
    OpnF P (Kd.pair d ds) off (f :: fs) (andG g gs) := by
  have hc : P.cellsOf f.type = d.sz := hc0.trans hs0.symm
  constructor; intro H enc w base spare held fuel cs hl hf
  obtain ⟨y, hy⟩ := hf f (by simp)
  rw [ho, hc] at hy
  obtain ⟨a, ha, hga⟩ := h.out hy
  obtain ⟨b, hb, hgb⟩ := hs.out (cs := cs) (by rw [hl]; show off + (d.sz + ds.sz) = _; omega) (fun f' hf' => hf f' (List.mem_cons_of_mem _ hf'))
  refine ⟨(a, b), ⟨_, _, ?_, ha, hb⟩, hga, hgb⟩
  rw [← List.drop_drop, List.take_append_drop]
theorem Opn.struct {α : Type} {d : Kd α} {t : TypeId} {L : List Field} {g : α → Prop} (ht : P.underlying t = some (.struct L.toArray)) {n0 : Nat} (hc0 : P.cellsOf t = n0) (hs0 : d.sz = n0) (h : OpnF P d 0 L g) : Opn P d t g := by
  have hc : P.cellsOf t = d.sz := hc0.trans hs0.symm
  constructor; intro H enc w base spare held fuel cs x hx
  obtain ⟨xs, n, _, _, hlen, hxs, hf⟩ := DataW.trod_struct ht hx
  obtain ⟨a, ha, hg⟩ := h.out (enc := enc) (w := w) (base := base) (spare := spare) (held := held) (fuel := n) (cs := cs) (by rw [hlen, hc]; omega) (fun f hm => by
    obtain ⟨i, hi, rfl⟩ := List.getElem_of_mem hm
    have h1 := hf i L[i] (by simp [hi])
    have hi2 : i < xs.length := by simp at hxs; omega
    exact ⟨xs[i], h1.trans (List.getElem?_eq_getElem hi2)⟩)
  exact ⟨a, by simpa using ha, hg⟩
end
end Go.Proofs.YtcgpibbbkdhpeaaW.Open

namespace Go.Proofs.Ytcgpibbbkdhpeaa.Q
open Go.RowKit Go.Proofs.YtcgpibbbkdhpeaaW.PrintWords Go.Proofs.YtcgpibbbkdhpeaaW.PrintLast Go.Proofs.YtcgpibbbkdhpeaaW.PrintMore
set_option linter.unusedVariables false
set_option linter.unusedSimpArgs false

open Go.Proofs.YtcgpibbbkdhpeaaW.Open
def g57 (x : S57) : Prop := (Lit.int .i64 x.f0).wf = true ∧ (Lit.int .i64 x.f1).wf = true ∧ (Lit.int .i64 x.f2).wf = true ∧ (Lit.int .i64 x.f3).wf = true ∧ (Lit.int .i64 x.f4).wf = true
theorem opn57 : Opn Try.prog k57 57 g57 := by
  show Opn Try.prog (Kd.iso (Kd.pair (Kd.int .i64) (Kd.pair (Kd.int .i64) (Kd.pair (Kd.int .i64) (Kd.pair (Kd.int .i64) (Kd.int .i64))))) (fun x : S57 => (x.f0, x.f1, x.f2, x.f3, x.f4))) 57 (fun x : S57 => (andG (fun x => (Lit.int .i64 x).wf = true) (andG (fun x => (Lit.int .i64 x).wf = true) (andG (fun x => (Lit.int .i64 x).wf = true) (andG (fun x => (Lit.int .i64 x).wf = true) (fun x => (Lit.int .i64 x).wf = true))))) ((fun x : S57 => (x.f0, x.f1, x.f2, x.f3, x.f4)) x))
  refine Opn.iso (g := (andG (fun x => (Lit.int .i64 x).wf = true) (andG (fun x => (Lit.int .i64 x).wf = true) (andG (fun x => (Lit.int .i64 x).wf = true) (andG (fun x => (Lit.int .i64 x).wf = true) (fun x => (Lit.int .i64 x).wf = true)))))) (fun x : S57 => (x.f0, x.f1, x.f2, x.f3, x.f4)) (fun a : Int × Int × Int × Int × Int => (⟨a.1, a.2.1, a.2.2.1, a.2.2.2.1, a.2.2.2.2⟩ : S57)) (fun _ => rfl) ?_
  refine Opn.struct Try.underlying57 (n0 := 5) (by kernel_rfl) rfl ?_
  refine OpnF.cons (n0 := 1) rfl ?_ rfl ?_ ?_
  · kernel_rfl
  · exact (Opn.int Try.underlying3)
  refine OpnF.cons (n0 := 1) rfl ?_ rfl ?_ ?_
  · kernel_rfl
  · exact (Opn.int Try.underlying3)
  refine OpnF.cons (n0 := 1) rfl ?_ rfl ?_ ?_
  · kernel_rfl
  · exact (Opn.int Try.underlying3)
  refine OpnF.cons (n0 := 1) rfl ?_ rfl ?_ ?_
  · kernel_rfl
  · exact (Opn.int Try.underlying3)
  refine OpnF.one (n0 := 1) rfl ?_ rfl ?_
  · kernel_rfl
  · exact (Opn.int Try.underlying3)
end Go.Proofs.Ytcgpibbbkdhpeaa.Q

namespace Go.Proofs.Ytcgpibbbkdhpeaa.Q
open Go.RowKit Go.Proofs.YtcgpibbbkdhpeaaW.PrintWords Go.Proofs.YtcgpibbbkdhpeaaW.PrintLast Go.Proofs.YtcgpibbbkdhpeaaW.PrintMore
set_option linter.unusedVariables false
set_option linter.unusedSimpArgs false

/-- THE ONE PURE STATEMENT of laws_FnExactBestLoomPlan. -/
def laws_FnExactBestLoomPlan.Pure : Prop := ∀ (l0 : List (S57)) (l1 : List Int), (l0.length ≤ maxLen ∧ ∀ x ∈ l0, g57 x) → (l1.length ≤ maxLen ∧ ∀ x ∈ l1, (Lit.int .i64 x).wf = true) → ∃ k, laws_FnExactBestLoomPlan.f k l0 l1 = some true
theorem laws_FnExactBestLoomPlan.walk (P : laws_FnExactBestLoomPlan.Pure) (l0 : List (S57)) (l1 : List Int) (A0 : Option Addr) (c0 : Nat) (A1 : Option Addr) (c1 : Nat) (w : World) (hr0 : Kd.C k57 w A0 l0.length l0) (hc0 : l0.length ≤ c0) (hr1 : Kd.C (Kd.int .i64) w A1 l1.length l1) (hc1 : l1.length ≤ c1) (q0 : (l0.length ≤ maxLen ∧ ∀ x ∈ l0, g57 x)) (q1 : (l1.length ≤ maxLen ∧ ∀ x ∈ l1, (Lit.int .i64 x).wf = true)) :
    Calls Try.prog 12 #[.slice A0 l0.length c0, .slice A1 l1.length c1] w fun e w' => e = .returned (.bool true) ∧ Below w.heap.size w w' := by
  obtain ⟨k, h⟩ := P l0 l1 q0 q1
  refine (laws_FnExactBestLoomPlan.calls (k := k) (r := true) (w := w) (hr0 := hr0) (hc0 := hc0) (hr1 := hr1) (hc1 := hc1) (h := h)).mono ?_
  rintro e w' ⟨rfl, hd⟩
  exact ⟨rfl, hd⟩
end Go.Proofs.Ytcgpibbbkdhpeaa.Q

namespace Go.Proofs.Ytcgpibbbkdhpeaa.Q
open Go.RowKit Go.Proofs.YtcgpibbbkdhpeaaW.PrintWords Go.Proofs.YtcgpibbbkdhpeaaW.PrintLast Go.Proofs.YtcgpibbbkdhpeaaW.PrintMore
set_option linter.unusedVariables false
set_option linter.unusedSimpArgs false

/-- A state of type 75 at block g of W; what its slices lead to came in by w0. -/
def IsS75 (w0 W : World) (g : Nat) (f0 : List Int) (f1 : Int) (f2 : Int) : Prop := ∃ A0 c0, W.heap[g]? = some (.cells #[.slice A0 f0.length c0, .int .i64 f1, .int .u64 f2] 75 (0, 0)) ∧ w0.heap.size ≤ g ∧ Kd.C (Kd.int .u8) w0 A0 f0.length f0
theorem IsS75.grown {w0 W : World} {g : Nat} {f0 : List Int} {f1 : Int} {f2 : Int} {W1 : World} {row : Option Nat} (h : IsS75 w0 W g f0 f1 f2) (hw : W.grownBy W1 row) (hne : some g ≠ row) : IsS75 w0 W1 g f0 f1 f2 := by
 obtain ⟨A0, c0, hb, hg, hr0⟩ := h
 exact ⟨A0, c0, blk_grown hb hw hne, hg, hr0⟩
theorem IsS75.fresh {w0 W : World} {g : Nat} {f0 : List Int} {f1 : Int} {f2 : Int} (h : IsS75 w0 W g f0 f1 f2) : ∀ k, W.heap.size ≤ k → k ≠ g := by
 obtain ⟨A0, c0, hb, hg, hr0⟩ := h
 exact Kd.freshB hb
theorem IsS75.kept {w0 W : World} {g : Nat} {f0 : List Int} {f1 : Int} {f2 : Int} {W1 : World} {S : Nat → Prop} (h : IsS75 w0 W g f0 f1 f2) (hk : Kept W W1 S) (hne : ¬ S g) : IsS75 w0 W1 g f0 f1 f2 := by
 obtain ⟨A0, c0, hb, hg, hr0⟩ := h
 exact ⟨A0, c0, blk_kept hb hk hne, hg, hr0⟩
theorem IsS75.below {w0 W : World} {g : Nat} {f0 : List Int} {f1 : Int} {f2 : Int} {W1 : World} (h : IsS75 w0 W g f0 f1 f2) (hw : Below W.heap.size W W1) : IsS75 w0 W1 g f0 f1 f2 := h.grown (grown_of_below hw none) (by simp)
theorem IsS75.alloc {w0 W : World} {g : Nat} {f0 : List Int} {f1 : Int} {f2 : Int} (h : IsS75 w0 W g f0 f1 f2) (o : Obj) : IsS75 w0 (W.alloc o) g f0 f1 f2 := h.below (below_alloc (Below.refl _ _) o)
theorem IsS75.drewN {w0 W : World} {g : Nat} {f0 : List Int} {f1 : Int} {f2 : Int} (h : IsS75 w0 W g f0 f1 f2) (m : Nat) : IsS75 w0 (W.drewN m) g f0 f1 f2 := h
theorem IsS75.drew {w0 W : World} {g : Nat} {f0 : List Int} {f1 : Int} {f2 : Int} (h : IsS75 w0 W g f0 f1 f2) : IsS75 w0 W.drew g f0 f1 f2 := h
theorem IsS75.at_ {w0 W : World} {g : Nat} {f0 : List Int} {f1 : Int} {f2 : Int} {w' : World} {m : Nat} (hq : W.drewN m = w') (h : IsS75 w0 W g f0 f1 f2) : IsS75 w0 w' g f0 f1 f2 := by subst hq; exact IsS75.drewN h m
theorem IsS75.apart {w0 W : World} {g : Nat} {f0 : List Int} {f1 : Int} {f2 : Int} {α : Type} {d : Kd α} {e : Nat} {base : Nat} {ok : Nat → Prop} {v : Value} {xs : List α} (h : IsS75 w0 W g f0 f1 f2) (ho : d.R e W base ok v xs) (ht : ∀ q, q ∈ e :: d.E → q ≠ 75) : d.R e W base (fun k => ok k ∧ k ≠ g) v xs := by
 obtain ⟨A0, c0, hb, hg, hr0⟩ := h
 exact Kd.R_types ho hb ht
theorem IsS75.lt {w0 W : World} {g : Nat} {f0 : List Int} {f1 : Int} {f2 : Int} (h : IsS75 w0 W g f0 f1 f2) : g < W.heap.size := by
 obtain ⟨A0, c0, hb, hg, hr0⟩ := h
 exact blk_lt hb
theorem IsS75.new (w0 W : World) (A0 : Option Addr) (c0 : Nat) (f0 : List Int) (f1 : Int) (f2 : Int) (hB : Below w0.heap.size w0 W) (hr0 : Kd.C (Kd.int .u8) w0 A0 f0.length f0) : IsS75 w0 (W.alloc (.cells #[.slice A0 f0.length c0, .int .i64 f1, .int .u64 f2] 75)) W.heap.size f0 f1 f2 := ⟨A0, c0, by simpa using heap_alloc_new W _, hB.size, hr0⟩

end Go.Proofs.Ytcgpibbbkdhpeaa.Q

namespace Go.Proofs.Ytcgpibbbkdhpeaa.M
open Go.RowKit Go.Proofs.Ytcgpibbbkdhpeaa.Q Go.Proofs.YtcgpibbbkdhpeaaW.PrintWords Go.Proofs.YtcgpibbbkdhpeaaW.PrintLast Go.Proofs.YtcgpibbbkdhpeaaW.Pl Classical
set_option linter.unusedSimpArgs false
set_option linter.unusedVariables false
theorem sLate (l : List S51) (m p : List Int) (h : asked l m p = true) : Ev (fun k => spec_l16Late.f k l m p) (lateP l m p) := by
  obtain ⟨h1, h2, h3⟩ := sEnds l m p h
  obtain ⟨b1, b2, b3, _, _⟩ := asked_at h
  unfold spec_l16Late.f lateP
  refine Ev.bind h1 ?_
  refine foldE (endsOf l m p).1.length (fun i s => wrap64 (s + mx 0 (wrap64 (nth (endsOf l m p).1 i 0 - (nth l i z51).f4)))) (fun k s i => spec_l16Late.l0 k l (endsOf l m p).1 s i) (fun s => s) ?_ ?_ 0
  · intro i s q hi hq
    refine Ev.succ ?_
    simp only [spec_l16Late.l0, rdI, rd51, most, Option.bind_some, if_pos (show (i : Int) < ((endsOf l m p).1.length : Int) by omega), if_pos (show (0 : Int) ≤ (i : Int) by omega), if_pos (show (i : Int) < (l.length : Int) by omega), stepI i (by omega)]
    exact hq
  · intro s
    refine Ev.succ ?_
    simp only [spec_l16Late.l0, if_neg (show ¬ (((endsOf l m p).1.length : Int) < ((endsOf l m p).1.length : Int)) by omega)]
    exact Ev.now _
theorem sLast (l : List S51) (m p : List Int) (h : asked l m p = true) : Ev (fun k => spec_l16Last.f k l m p) (lastP l m p) := by
  obtain ⟨h1, h2, h3⟩ := sEnds l m p h
  obtain ⟨b1, b2, b3, _, _⟩ := asked_at h
  unfold spec_l16Last.f lastP
  refine Ev.bind h1 ?_
  generalize hO : (endsOf l m p).1 = O at h2 ⊢
  have main : ∀ d (i : Nat) (s : Int), O.length - i = d → i ≤ O.length → Ev (fun k => spec_l16Last.l0 k O s (i : Int)) ((O.drop i).foldl mx s) := by
    intro d
    induction d with
    | zero =>
      intro i s hd hi
      have hil : i = O.length := by omega
      subst hil
      refine Ev.succ ?_
      simp only [spec_l16Last.l0, if_neg (show ¬ ((O.length : Int) < (O.length : Int)) by omega), List.drop_length, List.foldl_nil]
      exact Ev.now _
    | succ d ih =>
      intro i s hd hi
      refine Ev.succ ?_
      have := ih (i + 1) (mx s (nth O i 0)) (by omega) (by omega)
      rw [List.drop_eq_getElem_cons (show i < O.length by omega), List.foldl_cons, ← nth_get (z := 0) (show i < O.length by omega)]
      simp only [spec_l16Last.l0, rdI, most, Option.bind_some, if_pos (show (i : Int) < (O.length : Int) by omega), if_pos (show (0 : Int) ≤ (i : Int) by omega), stepI i (by omega)]
      exact this
  exact main O.length 0 0 (by omega) (by omega)
theorem sBetter (l : List S51) (m p q : List Int) (h : asked l m p = true) (h' : asked l m q = true) : Ev (fun k => spec_l16Better.f k l m p q) (betterB l m p q) := by
  unfold spec_l16Better.f betterB
  refine Ev.bind (sLate l m p h) (Ev.bind (sLate l m q h') ?_)
  by_cases h1 : lateP l m p < lateP l m q
  · simp only [if_pos h1]
    exact Ev.now _
  · simp only [if_neg h1]
    by_cases h2 : lateP l m p = lateP l m q
    · simp only [if_pos h2]
      exact Ev.bind (sLast l m p h) (Ev.bind (sLast l m q h') (Ev.now _))
    · simp only [if_neg h2]
      exact Ev.now _
/-- All plans that continue one by d jobs. -/
def compl (l : List S51) (m : List Int) : Nat → List Int → List (List Int)
  | 0, b => [b]
  | d + 1, b => (extN m (nth l b.length z51).f1 b m.length).flatMap (compl l m d)
theorem midN_flat (m : List Int) (w : Int) (out : List (List Int)) : ∀ n, n ≤ out.length → midN m w out n = (out.take n).flatMap (fun p => extN m w p m.length)
  | 0, _ => by simp [midN]
  | n + 1, h => by
    unfold midN
    rw [midN_flat m w out n (by omega), List.take_succ_eq_append_getElem (show n < out.length by omega), List.flatMap_append, nth_get (show n < out.length by omega)]
    simp
theorem plansTo_flat (l : List S51) (m : List Int) (i : Nat) : plansTo l m (i + 1) = (plansTo l m i).flatMap (fun p => extN m (nth l i z51).f1 p m.length) := by
  rw [plansTo, midN_flat _ _ _ _ (Nat.le_refl _), List.take_length]
theorem flatMap_congr {α β : Type} {f g : α → List β} : ∀ {xs : List α}, (∀ x, x ∈ xs → f x = g x) → xs.flatMap f = xs.flatMap g
  | [], _ => rfl
  | x :: xs, h => by
    rw [List.flatMap_cons, List.flatMap_cons, h x (by simp), flatMap_congr (fun y hy => h y (by simp [hy]))]
theorem plansTo_compl (l : List S51) (m : List Int) : ∀ d i, (plansTo l m i).flatMap (compl l m d) = plansTo l m (i + d)
  | 0, i => by
    show (plansTo l m i).flatMap (fun b => [b]) = _
    simp
  | d + 1, i => by
    have h := plansTo_compl l m d (i + 1)
    rw [plansTo_flat, List.flatMap_assoc] at h
    rw [show i + (d + 1) = i + 1 + d by omega, ← h]
    refine flatMap_congr (fun b hb => ?_)
    rw [compl, (plansTo_sound l m i b hb).1]
theorem compl_all (l : List S51) (m : List Int) : compl l m l.length [] = plansTo l m l.length := by
  have h := plansTo_compl l m l.length 0
  rw [Nat.zero_add] at h
  rw [← h]
  simp [plansTo]
theorem compl_sound (l : List S51) (m : List Int) : ∀ d b p, partial_ l m b b.length → p ∈ compl l m d b → partial_ l m p (b.length + d)
  | 0, b, p, hb, hp => by
    have : p = b := by simpa [compl] using hp
    subst this
    exact hb
  | d + 1, b, p, hb, hp => by
    unfold compl at hp
    obtain ⟨q, hq, hp⟩ := List.mem_flatMap.1 hp
    obtain ⟨k, k1, k2, rfl⟩ := extN_mem hq
    have h1 := partial_snoc hb k1 k2
    have hl : (b ++ [(k : Int)]).length = b.length + 1 := by simp
    have := compl_sound l m d (b ++ [(k : Int)]) p (by rw [hl]; exact h1) hp
    rw [hl] at this
    rw [show b.length + (d + 1) = b.length + 1 + d by omega]
    exact this
theorem pickP_mem {l : List S51} {m : List Int} : ∀ {ps : List (List Int)}, (pickP l m ps).2 = true → (pickP l m ps).1 ∈ ps
  | [], h => by simp [pickP] at h
  | p :: ps, _ => foldl_selP_mem l m ps p
theorem sBest (l : List S51) (m : List Int) (hJ : goodJ l = true) (hL : goodL m = true) : ∀ d b, b.length + d = l.length → partial_ l m b b.length → Ev (fun k => spec_l16Best.f k l m b) (pickP l m (compl l m d b)) := by
  have hl6 : l.length ≤ 6 := by unfold goodJ at hJ; rw [Bool.and_eq_true] at hJ; exact of_decide_eq_true hJ.1
  have hm3 : m.length ≤ 3 := by unfold goodL at hL; rw [Bool.and_eq_true] at hL; exact (of_decide_eq_true hL.2).2
  intro d
  induction d with
  | zero =>
    intro b hb hp
    refine Ev.succ ?_
    simp only [spec_l16Best.f, if_pos (show (b.length : Int) = (l.length : Int) by omega)]
    exact Ev.now _
  | succ d ih =>
    intro b hb hp
    refine Ev.succ ?_
    simp only [spec_l16Best.f, if_neg (show ¬ ((b.length : Int) = (l.length : Int)) by omega)]
    have main : ∀ e (j : Nat), m.length - j = e → j ≤ m.length → Ev (fun k => spec_l16Best.l0 k l m b (pickP l m ((extN m (nth l b.length z51).f1 b j).flatMap (compl l m d))).1 (pickP l m ((extN m (nth l b.length z51).f1 b j).flatMap (compl l m d))).2 (j : Int)) (pickP l m (compl l m (d + 1) b)) := by
      intro e
      induction e with
      | zero =>
        intro j he hj
        have hjm : j = m.length := by omega
        subst hjm
        refine Ev.succ ?_
        simp only [spec_l16Best.l0, if_neg (show ¬ ((m.length : Int) < (m.length : Int)) by omega)]
        exact Ev.now _
      | succ e ihe =>
        intro j he hj
        have hnext := ihe (j + 1) (by omega) (by omega)
        refine Ev.succ ?_
        simp only [spec_l16Best.l0, rdI, rd51, if_pos (show (j : Int) < (m.length : Int) by omega), if_pos (show (0 : Int) ≤ (j : Int) by omega), if_pos (show (0 : Int) ≤ (b.length : Int) by omega), if_pos (show (b.length : Int) < (l.length : Int) by omega), stepI j (by omega)]
        by_cases hw : nth m j 0 < (nth l b.length z51).f1
        · simp only [if_pos hw]
          rw [extN, if_neg (by omega)] at hnext
          exact hnext
        · have hk := partial_snoc hp (k := j) (by omega) (show (nth l b.length z51).f1 ≤ nth m j 0 by omega)
          have hbl : (b ++ [(j : Int)]).length = b.length + 1 := by simp
          have hq := ih (b ++ [(j : Int)]) (by rw [hbl]; omega) (by rw [hbl]; exact hk)
          rw [extN, if_pos (by omega), List.flatMap_append, show List.flatMap (compl l m d) [b ++ [(j : Int)]] = compl l m d (b ++ [(j : Int)]) by simp, pickP_append] at hnext
          have own : spec_l1Own.f b = some b := by
            unfold spec_l1Own.f
            rw [Option.bind_some, if_pos (by simp; omega), List.nil_append]
          simp only [if_neg hw, own, Option.bind_some, if_pos (show b.length < 17592186044416 by omega)]
          refine Ev.bind hq ?_
          have hqm := pickP_mem (l := l) (m := m) (ps := compl l m d (b ++ [(j : Int)]))
          have hqs : ∀ p, p ∈ compl l m d (b ++ [(j : Int)]) → asked l m p = true := fun p hpm => by
            have := compl_sound l m d _ p (by rw [hbl]; exact hk) hpm
            rw [hbl, show b.length + 1 + d = l.length by omega] at this
            exact partial_asked hJ hL this
          have hpm := pickP_mem (l := l) (m := m) (ps := (extN m (nth l b.length z51).f1 b j).flatMap (compl l m d))
          have hps : ∀ p, p ∈ (extN m (nth l b.length z51).f1 b j).flatMap (compl l m d) → asked l m p = true := fun p hpm => by
            obtain ⟨q, hq, hpq⟩ := List.mem_flatMap.1 hpm
            obtain ⟨k, k1, k2, rfl⟩ := extN_mem hq
            have h1 := partial_snoc hp (k := k) (by omega) k2
            have hl' : (b ++ [(k : Int)]).length = b.length + 1 := by simp
            have := compl_sound l m d _ p (by rw [hl']; exact h1) hpq
            rw [hl', show b.length + 1 + d = l.length by omega] at this
            exact partial_asked hJ hL this
          generalize pickP l m (compl l m d (b ++ [(j : Int)])) = R at hnext hqm ⊢
          generalize pickP l m ((extN m (nth l b.length z51).f1 b j).flatMap (compl l m d)) = S at hnext hpm ⊢
          by_cases h1 : R.2 = true
          · simp only [if_pos h1] at hnext ⊢
            by_cases h2 : S.2 = true
            · simp only [if_pos h2] at hnext ⊢
              refine Ev.bind (sBetter l m R.1 S.1 (hqs _ (hqm h1)) (hps _ (hpm h2))) ?_
              by_cases h3 : betterP l m R.1 S.1
              · rw [if_pos h3] at hnext
                simp only [(betterB_iff l m R.1 S.1).2 h3, if_true]
                exact hnext
              · rw [if_neg h3] at hnext
                have h4 : betterB l m R.1 S.1 = false := by
                  cases hb : betterB l m R.1 S.1 with
                  | false => rfl
                  | true => exact absurd ((betterB_iff l m R.1 S.1).1 hb) h3
                simp only [h4, Bool.false_eq_true, if_false]
                rw [h2]
                exact hnext
            · simp only [if_neg h2] at hnext ⊢
              exact hnext
          · simp only [if_neg h1] at hnext ⊢
            exact hnext
    exact main m.length 0 (by omega) (by omega)
/-- What BestLoomPlan answers. -/
def bestRes (l : List S51) (m : List Int) : List Int × Bool := if (goodJ l && goodL m) = true then bestP l m else ([], false)
theorem sBestPlan (l : List S51) (m : List Int) (hl : l.length ≤ 1048576) (hm : m.length ≤ 1048576) : Ev (fun k => spec_BestLoomPlan.f k l m) (bestRes l m) := by
  unfold spec_BestLoomPlan.f bestRes
  refine Ev.bind (sBoth l m hl hm) ?_
  by_cases h : (goodJ l && goodL m) = true
  · simp only [h, if_true]
    rw [Bool.and_eq_true] at h
    have := sBest l m h.1 h.2 l.length [] (by simp) ⟨rfl, fun j hj => by simp at hj⟩
    rw [compl_all] at this
    exact Ev.bind this (Ev.now _)
  · simp only [h, Bool.false_eq_true, if_false]
    exact Ev.now _
theorem bestRes_len (l : List S51) (m : List Int) : (bestRes l m).1.length ≤ 6 := by
  unfold bestRes
  split
  · rename_i h
    rw [Bool.and_eq_true] at h
    have hl6 : l.length ≤ 6 := by have := h.1; unfold goodJ at this; rw [Bool.and_eq_true] at this; exact of_decide_eq_true this.1
    by_cases hb : (bestP l m).2 = true
    · have := (plansTo_sound l m _ _ (bestP_mem hb)).1
      omega
    · have : plansTo l m l.length = [] := by
        cases hp : plansTo l m l.length with
        | nil => rfl
        | cons p ps => exact absurd (bestP_some.2 (by rw [hp]; simp)) hb
      unfold bestP
      rw [this]
      simp [pickP]
  · simp
end Go.Proofs.Ytcgpibbbkdhpeaa.M

namespace Go.Proofs.Ytcgpibbbkdhpeaa.M
open Go.RowKit Go.Proofs.Ytcgpibbbkdhpeaa.Q Go.Proofs.YtcgpibbbkdhpeaaW.PrintWords Go.Proofs.YtcgpibbbkdhpeaaW.PrintLast Go.Proofs.YtcgpibbbkdhpeaaW.Pl Classical
set_option linter.unusedSimpArgs false
set_option linter.unusedVariables false

/-- What is told of the narrowest looms. -/
def W_ (l : List S51) (m : List Int) (q : List Int × Bool) : Prop := q.1.length ≤ 1048576 ∧ ((goodJ l && goodL m) = true → (q.2 = true → partial_ l m q.1 l.length) ∧ (q.2 = false → ∃ i, i < l.length ∧ ∀ k, k < m.length → nth m k 0 < (nth l i z51).f1)) ∧ ((goodJ l && goodL m) = false → q.2 = false)
end Go.Proofs.Ytcgpibbbkdhpeaa.M

namespace Go.Proofs.Ytcgpibbbkdhpeaa.M
open Go.RowKit Go.Proofs.Ytcgpibbbkdhpeaa.Q Go.Proofs.YtcgpibbbkdhpeaaW.PrintWords Go.Proofs.YtcgpibbbkdhpeaaW.PrintLast Go.Proofs.YtcgpibbbkdhpeaaW.Pl Classical
set_option linter.unusedSimpArgs false
set_option linter.unusedVariables false
theorem iBestPlan (l : List S51) (m : List Int) (hl : l.length ≤ 1048576) (hm : m.length ≤ 1048576) : impl_BestLoomPlan.f l m = some (bestRes l m) := by
  unfold impl_BestLoomPlan.f bestRes
  rw [if_pos ⟨hl, hm⟩]
end Go.Proofs.Ytcgpibbbkdhpeaa.M

namespace Go.Proofs.Ytcgpibbbkdhpeaa.Pure
open Go.RowKit Go.Proofs.Ytcgpibbbkdhpeaa.Q Go.Proofs.Ytcgpibbbkdhpeaa.M Go.Proofs.YtcgpibbbkdhpeaaW.PrintWords Go.Proofs.YtcgpibbbkdhpeaaW.Pl
set_option linter.unusedSimpArgs false

theorem FnExactBestLoomPlan : laws_FnExactBestLoomPlan.Pure := by
  intro l0 m ⟨hZ, _⟩ _
  refine Ev.rounds ?_
  unfold laws_FnExactBestLoomPlan.f
  by_cases hcm : (m.length : Int) > 1048576
  · simp only [if_pos hcm]
    repeat' first | exact Ev.now _ | split
  simp only [if_neg hcm]
  obtain ⟨r, hr, hs⟩ := szLoomJobs l0 hZ
  rw [hr]
  simp only [Option.bind_some]
  by_cases h : 1048576 < l0.length
  · simp only [if_pos (hs.2 h)]
    exact Ev.now _
  · have hl : (l0.map cvLoomJob).length ≤ 1048576 := by simp; omega
    have hto := toLoomJobs l0 (by omega)
    have hsz : ¬ r < 0 := fun h2 => h (hs.1 h2)
    have heq := eqLoomJobs _ hl
    generalize l0.map cvLoomJob = l at hl hto heq
    have hbm : m.length ≤ 1048576 := by omega
    have htm := toInts m hbm
    have hem := eqInts m hbm
    have hS := sBestPlan l m hl hbm
    have hI := iBestPlan l m hl hbm
    have hQ : (bestRes l m).1.length ≤ 1048576 := by have := bestRes_len l m; omega
    generalize bestRes l m = q at hS hI hQ
    obtain ⟨l', hmk⟩ := markLoomJobs l hl
    obtain ⟨p0, e0, _, hmk0⟩ := markIntsFrom m hbm (5 * l.length + 1) (by omega)
    have hei := eqInts _ hQ
    have hmi := markInts _ hQ
    have hhi := heldInts _ hQ
    have hn : ¬ (((q.1.length + 1 : Nat) : Int) < 0) := by omega
    have hneg : ¬ (p0.1 < 0) := by rw [e0]; omega
    simp only [if_neg hsz]
    repeat' first
      | exact Ev.now _
      | (with_reducible refine Ev.bind hto ?_)
      | (with_reducible refine Ev.bind htm ?_)
      | (with_reducible refine Ev.bind hS ?_)
      | (with_reducible refine Ev.bindc hI ?_)
      | (with_reducible refine Ev.bind heq ?_)
      | (with_reducible refine Ev.bind hem ?_)
      | (with_reducible refine Ev.bind hei ?_)
      | (with_reducible refine Ev.bind hmk ?_)
      | (with_reducible refine Ev.bind hmk0 ?_)
      | (with_reducible refine Ev.bind hmi ?_)
      | (with_reducible refine Ev.bind hhi ?_)
      | simp only [if_true, bne_self_eq_false, Bool.false_eq_true, if_false, if_neg hneg, if_neg hn]
      | (refine Ev.succ ?_; simp only [laws_FnExactBestLoomPlan.j0, laws_FnExactBestLoomPlan.j1, laws_FnExactBestLoomPlan.j2, Bool.false_eq_true, if_false])
end Go.Proofs.Ytcgpibbbkdhpeaa.Pure

namespace Go.Proofs.Ytcgpibbbkdhpeaa.fnExactBestLoomPlan
open Go.ChangeShapes Go.WideShapes Go.ChangeAt Go.RowKit Go.Proofs.Ytcgpibbbkdhpeaa.Q Go.Proofs.YtcgpibbbkdhpeaaW.Open Go.Proofs.YtcgpibbbkdhpeaaW.PrintWords
set_option linter.unusedVariables false
theorem own : ownKnob Try.prog.godebug = none := by kernel_rfl
theorem laidOut : laidOutB Try.prog = true := by kernel_rfl
set_option maxRecDepth 100000 in
theorem lifted (os : Os) (started : os.Started) (H : Type) (enc : TypeId × Value → H) :
    ReturnsInHanded {} Try.checked os 12 .any (Rows.fnExactBestLoomPlanSpec.pre6 enc Try.prog Try.f12 Rows.fnExactBestLoomPlanRow.domain false) (Rows.fnExactBestLoomPlanSpec.post enc Try.prog Try.f12 false true false false) := by
  refine returnsInHanded_of_change_sized (C := Try.checked) own started (by kernel_rfl) Try.func12
    (ChangeSpec.witness6 (enc := enc) (C := Try.checked) false ⟨#[], #[.slice none 0 0, .slice none 0 0], []⟩ 8 (by kernel_rfl) (by kernel_rfl) (by kernel_rfl) (by kernel_rfl)) ?_
  intro W base args ds gs before hval0 hW hcnd hsz0 _
  have hval : ∀ (j : Nat) t v, Try.f12.params[j]? = some t → args[j]? = some v → Value.okWide Try.prog W .any base t v := hval0
  have hW' := hW
  obtain ⟨p, q, hA0, hV, rfl, hfz, hnd⟩ := hW
  have hA : DataW.TrodAll enc Try.prog W 0 (fun _ => true) true Try.f12.params.toList args.toList ds p := hA0
  rw [Try.params12] at hA hval
  obtain ⟨v0, vs0, d0, ds0, p0, q0, hargs, rfl, rfl, h0, r0⟩ := trodAll_cons hA
  obtain ⟨v1, vs1, d1, ds1, p1, q1, rfl, rfl, rfl, h1, r1⟩ := trodAll_cons r0
  obtain ⟨rfl, rfl, rfl⟩ := trodAll_nil r1
  obtain rfl : args = #[v0, v1] := by cases args; simp_all
  obtain ⟨rfl, rfl⟩ := trodVars_none hV
  have k0 := h0
  have lt0 : ∀ x ∈ p0, x.block < W.heap.size := by obtain ⟨m, hm⟩ := k0; exact DataW.trod_lt m _ _ _ hm
  obtain ⟨a0, len0, cap0, rfl⟩ := okWide_slice Try.underlying22 (hval 0 22 v0 rfl rfl)
  obtain ⟨fu0, hf0⟩ := h0
  obtain ⟨x0, ⟨A0, c0, hk0, hc0, hr0⟩, q0⟩ := ((Opn.slice Try.underlying22 (n0 := 5) (by kernel_rfl) rfl opn57)).out hf0
  simp [Value.cells] at hk0
  obtain ⟨rfl, rfl, rfl⟩ := hk0
  have k1 := h1
  have lt1 : ∀ x ∈ p1, x.block < W.heap.size := by obtain ⟨m, hm⟩ := k1; exact DataW.trod_lt m _ _ _ hm
  obtain ⟨a1, len1, cap1, rfl⟩ := okWide_slice Try.underlying29 (hval 1 29 v1 rfl rfl)
  obtain ⟨fu1, hf1⟩ := h1
  obtain ⟨x1, ⟨A1, c1, hk1, hc1, hr1⟩, q1⟩ := ((Opn.slice Try.underlying29 (n0 := 1) (by kernel_rfl) rfl (Opn.int Try.underlying3))).out hf1
  simp [Value.cells] at hk1
  obtain ⟨rfl, rfl, rfl⟩ := hk1
  refine (laws_FnExactBestLoomPlan.walk Pure.FnExactBestLoomPlan x0 x1 _ _ _ _ W hr0 hc0 hr1 hc1 q0 q1).mono fun e W' ⟨he, bel⟩ => ?_
  subst he
  exact ⟨_, rfl, _, _, _, [], _, [], hW', trodAll_mk1 (shut_bool Try.underlying4 _), (trodAll_cons_mk (Below.trod laidOut (by kernel_rfl) (of_decide_eq_true (by kernel_rfl)) k0 bel lt0) (trodAll_cons_mk (Below.trod laidOut (by kernel_rfl) (of_decide_eq_true (by kernel_rfl)) k1 bel lt1) trodAll_mk0)), rfl, bel.frame _, fun h => by cases h⟩
theorem over : Rows.fnExactBestLoomPlanRow.holds Try.pinned (OpenSpec.ofChange Rows.fnExactBestLoomPlanSpec) :=
  OpenClaim.holds_of_wide 12 Try.f12 rfl rfl rfl rfl rfl rfl rfl ⟨rfl, rfl, rfl, rfl, rfl⟩ rfl rfl rfl rfl rfl (by kernel_rfl) Try.func12 (by kernel_rfl)
    (of_decide_eq_true (by kernel_rfl)) (by unfold Func.isWrapper; first | (rw [if_pos (by decide +kernel)]; kernel_rfl) | (rw [if_neg (by decide +kernel)]; exact ⟨rfl, rfl⟩))
    (fun os started H enc _ => lifted os started H enc)
theorem proved : Rows.FnExactBestLoomPlanSaid := over
end Go.Proofs.Ytcgpibbbkdhpeaa.fnExactBestLoomPlan
namespace Go.Proofs.Ytcgpibbbkdhpeaa
/-- The row, under a short name, for the claim. -/
theorem fnExactBestLoomPlan_holds : Rows.FnExactBestLoomPlanSaid := fnExactBestLoomPlan.proved
end Go.Proofs.Ytcgpibbbkdhpeaa

#print axioms Go.Proofs.Ytcgpibbbkdhpeaa.fnExactBestLoomPlan_holds
