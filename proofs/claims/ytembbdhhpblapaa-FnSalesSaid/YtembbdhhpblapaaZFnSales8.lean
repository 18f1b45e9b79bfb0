/- An estimate lies between those by the least and the greatest ratio, and the means of the years have all sales: for every code that is drawn from, no condition. -/
import Derived.KernelRfl
import Derived.Test.YtembbdhhpblapaaRows
import Derived.WalkKit
import Derived.ProofKit
import Derived.OpenShut
import Derived.ShutString
import Derived.ChangeOld
import Derived.Below
import Derived.SizedLaws
import Derived.Carry
import Derived.ChangeVars
import Derived.Test.YtembbdhhpblapaaZFnSales7
namespace Go.Proofs.Ytembbdhhpblapaa.WK
open Go Go.RowKit Go.Proofs.Ytembbdhhpblapaa.Q Go.Proofs.Ytembbdhhpblapaa.M Go.Proofs.YtembbdhhpblapaaW.PrintWords Go.Proofs.YtembbdhhpblapaaW.SL
open Go.Proofs.YtembbdhhpblapaaW.Pl (nth nth_get nth_mem)
open Go.Proofs.Ytembbdhhpblapaa.M.EB Go.Proofs.Ytembbdhhpblapaa.M.FS
set_option linter.unusedSimpArgs false
set_option linter.unusedVariables false
set_option maxRecDepth 100000
namespace FSW
theorem agg25 : AggT Try.prog 25 5 := ⟨by kernel_rfl⟩
theorem agg40 : AggT Try.prog 40 7 := ⟨by kernel_rfl⟩
theorem sz25 : SzT Try.prog 25 5 := ⟨by kernel_rfl⟩
theorem sz40 : SzT Try.prog 40 7 := ⟨by kernel_rfl⟩
theorem sc3 : ScT Try.prog 3 := ⟨by kernel_rfl⟩
theorem sc69 : ScT Try.prog 69 := ⟨by kernel_rfl⟩
theorem fld40_0 : FldT Try.prog 40 0 0 := ⟨by kernel_rfl⟩
theorem fld40_1 : FldT Try.prog 40 1 1 := ⟨by kernel_rfl⟩
theorem zero25 : ZeroT Try.prog 25 [.int .i64 0, .int .i64 0, .int .i64 0, .int .i64 0, .bool false] := ⟨by kernel_rfl⟩
theorem zero40 : ZeroT Try.prog 40 [.int .i64 0, .int .i64 0, .int .i64 0, .int .i64 0, .int .i64 0, .bool false, .int .i64 0] := ⟨by kernel_rfl⟩
theorem el46 : ElT Try.prog 46 40 7 := ⟨by kernel_rfl⟩
theorem el57 : ElT Try.prog 57 69 1 := ⟨by kernel_rfl⟩
theorem el69 : ElT Try.prog 69 3 1 := ⟨by kernel_rfl⟩
theorem en33 : Ent Try.prog 33 := ⟨enters_of Try.func33 (by kernel_rfl) rfl⟩
theorem en45 : Ent Try.prog 45 := ⟨enters_of Try.func45 (by kernel_rfl) rfl⟩
theorem en44 : Ent Try.prog 44 := ⟨enters_of Try.func44 (by kernel_rfl) rfl⟩
theorem en43 : Ent Try.prog 43 := ⟨enters_of Try.func43 (by kernel_rfl) rfl⟩
theorem en20 : Ent Try.prog 20 := ⟨enters_of Try.func20 (by kernel_rfl) rfl⟩
theorem en18 : Ent Try.prog 18 := ⟨enters_of Try.func18 (by kernel_rfl) rfl⟩
theorem en27 : Ent Try.prog 27 := ⟨enters_of Try.func27 (by kernel_rfl) rfl⟩
theorem en46 : Ent Try.prog 46 := ⟨enters_of Try.func46 (by kernel_rfl) rfl⟩
theorem en38 : Ent Try.prog 38 := ⟨enters_of Try.func38 (by kernel_rfl) rfl⟩
theorem en37 : Ent Try.prog 37 := ⟨enters_of Try.func37 (by kernel_rfl) rfl⟩
theorem en47 : Ent Try.prog 47 := ⟨enters_of Try.func47 (by kernel_rfl) rfl⟩
theorem en31 : Ent Try.prog 31 := ⟨enters_of Try.func31 (by kernel_rfl) rfl⟩
theorem en48 : Ent Try.prog 48 := ⟨enters_of Try.func48 (by kernel_rfl) rfl⟩
theorem en49 : Ent Try.prog 49 := ⟨enters_of Try.func49 (by kernel_rfl) rfl⟩
theorem en25 : Ent Try.prog 25 := ⟨enters_of Try.func25 (by kernel_rfl) rfl⟩
theorem mixed : Try.prog.follows .mixedOrders = true := by kernel_rfl
theorem eqBB {P : Program} {N : Nat} {B : Base} {L : Sl} {its : List Go.Proofs.YtembbdhhpblapaaW.SL.Item} {ps : List (World → Prop)} {o : Oper} {x y : Operand} {tx ty : TypeId} {p : Bool} (hop : o.op = .binOp .eql tx x y ty) (hx : ev L x = some (.bool p)) (hy : ev L y = some (.bool p)) (ht : P.underlying tx = some .bool) : Yd P N B o (.bool true) L its ps :=
  Y.cmpB ht hop hx hy (by simp [bbOp])
theorem big_ (A0 : Option Addr) (c0 : Nat) (l0 : List Int) (r : Bool) (w : World) (hr0 : Kd.C (Kd.int .u8) w A0 l0.length l0) (hc0 : l0.length ≤ c0) (h : laws_rBig.f l0 = some r) : Calls Try.prog 33 #[.slice A0 l0.length c0] w fun e w' => e = .returned (.bool r) ∧ Below w.heap.size w w' := (laws_rBig.calls _ _ l0 r w hr0 hc0 h).mono (fun _ _ h => ⟨h.1, h.2.below⟩)
theorem table_ {k c d b : Nat} {A B : Option Addr} {vs us : List Value} {q : List (List Int)} {w : World} (h1 : GV 69 3 b (.slice A vs.length c) vs q w) (h2 : GV 69 3 b (.slice B us.length d) us q w) (h : laws_rTable.f k q q = some true) : Calls Try.prog 47 #[.slice A vs.length c, .slice B us.length d] w fun e w' => e = .returned (.bool true) ∧ Below w.heap.size w w' := by
  have e1 := h1.els.len
  have e2 := h2.els.len
  have r1 := h1.reads.2.1
  have r2 := h2.reads.2.1
  rw [e1, e2]
  exact (laws_rTable.calls k A c q B d q true w h1.C (by omega) h2.C (by omega) h).mono (fun _ _ h => ⟨h.1, h.2.below⟩)
theorem has_ {k g c : Nat} {p y : Int} {r : Bool} {w : World} (hr : KJ.C w (some ⟨g, 0, none⟩) ([p] : List Int).length [p]) (hc : 1 ≤ c) (h : laws_rHas.f k [p] y = some r) : Calls Try.prog 48 #[.slice (some ⟨g, 0, none⟩) ((1 : Int)).toNat c, .int .i64 y] w fun e w' => e = .returned (.bool r) ∧ Below w.heap.size w w' :=
  (laws_rHas.calls k (some ⟨g, 0, none⟩) c [p] y r w hr hc h).mono (fun _ _ h => ⟨h.1, h.2.below⟩)
set_option maxHeartbeats 2000000 in
theorem walkB (l0 : List Int) (A0 : Option Addr) (c0 : Nat) (w : World) (hr0 : Kd.C (Kd.int .u8) w A0 l0.length l0) (hc0 : l0.length ≤ c0) (hbig : laws_rBig.f l0 = some true) : Calls Try.prog 13 #[.slice A0 l0.length c0] w fun e w' => e = .returned (.bool true) ∧ Below w.heap.size w w' := by
  let Rr : Ending → World → Prop := fun e w' => e = .returned (.bool true) ∧ Below w.heap.size w w'
  refine enterW (args := [.slice A0 l0.length c0]) [(fun W => (Kd.int .u8).C W A0 l0.length l0)] (fun p hp W hb => by rw [List.mem_singleton.1 hp]; exact Kd.C_below hr0 hb) Try.func13 rfl rfl ?_
  show Cj Try.prog _ _ _ (bodyPost Try.prog Try.f13 Rr) _ _ _
  repeat (first
    | (apply gateO; first
      | refine Jl.yd (Y.mv rfl rfl) rfl rfl rfl ?_
      | refine Jl.yd (Y.asg rfl rfl) rfl rfl rfl ?_
      | refine Jl.yd (Y.ext rfl rfl rfl) rfl rfl rfl ?_
      | refine Jl.yd (Y.pickT rfl rfl rfl) rfl rfl rfl ?_
      | refine Jl.yd (Y.pickF rfl rfl rfl) rfl rfl rfl ?_
      | refine Jl.off rfl rfl rfl ?_
      | refine Jl.yd (Y.cmpF rfl rfl rfl rfl (by omega)) rfl rfl rfl ?_
      | refine Jl.yd (Y.cmpT rfl rfl rfl rfl (by omega)) rfl rfl rfl ?_
      | refine Jl.yd (Y.neqB rfl rfl rfl Try.underlying4) rfl rfl rfl ?_
      | refine Jl.yd (Y.cmp rfl rfl rfl rfl) rfl rfl rfl ?_
      | refine Jl.yd (Y.not rfl rfl) rfl rfl rfl ?_
      | refine Jl.yd (Y.arithN rfl rfl rfl rfl (by omega)) rfl rfl rfl ?_
      | refine Jl.yd (Y.arith64 rfl rfl rfl rfl) rfl rfl rfl ?_
      | refine Jl.call1 (v := .bool true) rfl rfl rfl rfl en33 rfl (fun w hW => by with_reducible exact big_ A0 c0 l0 true w (hW.fact (p := (fun W => (Kd.int .u8).C W A0 l0.length l0)) (by repeat (first | exact memH | refine memT ?_))) hc0 hbig) ?_
      | refine Jl.splitG rfl rfl (fun h => ?_) (fun h => ?_))
    | (apply gateE; first
      | refine Jl.nil (Ej.go ?_ (fun _ _ h => h))
      | (refine Jl.nil (Ej.back (fun _ _ h => h) (by repeat (first | exact .refl | apply DropTo.tail)) ?_); repeat (first | exact trivial | refine ⟨rfl, ?_⟩)))
    | (apply gateC; first
      | refine Cj.ret rfl (Ej.out1 (P := Try.prog) (fn := Try.f13) (R := Rr) (fun _ _ h => h) rfl rfl (fun w' hW => ⟨rfl, hW.below⟩))
      | refine Cj.condF rfl rfl (Cj.skip rfl (Ej.go ?_ (fun _ _ h => h)))
      | (refine Cj.condF rfl rfl (Cj.skip rfl (Ej.back (fun _ _ h => h) (by repeat (first | exact .refl | apply DropTo.tail)) ?_)); repeat (first | exact trivial | refine ⟨rfl, ?_⟩))
      | refine Cj.condF rfl rfl ?_
      | refine Cj.condT rfl rfl ?_
      | refine Cj.exit rfl (Ej.go ?_ (fun _ _ h => h))
      | refine Cj.cond rfl rfl (fun h => ?_) (fun h => ?_)
      | refine Cj.skip rfl (Ej.go ?_ (fun _ _ h => h))
      | (refine Cj.skip rfl (Ej.back (fun _ _ h => h) (by repeat (first | exact .refl | apply DropTo.tail)) ?_); repeat (first | exact trivial | refine ⟨rfl, ?_⟩))
      | refine Cj.seq rfl ?_
      | refine Cj.region rfl ?_))
set_option maxHeartbeats 16000000 in
theorem walk (l0 : List Int) (A0 : Option Addr) (c0 : Nat) (w : World) (hr0 : Kd.C (Kd.int .u8) w A0 l0.length l0) (hc0 : l0.length ≤ c0) (hbig : laws_rBig.f l0 = some false) (l : List S40) (a : S25) (k1 : Nat) (hD1 : spec_DrawEstimateBy.f k1 l0 = some (l, a.f0, a.f1, a.f2, a.f3, a.f4)) (n : Int) (ok : Bool)
    (hI : ∀ (A : Option Addr) (c : Nat) (w : World), Kd.C k40 w A l.length l → l.length ≤ c → Calls Try.prog 44 #[.slice A l.length c, .agg ([.int .i64 a.f0, .int .i64 a.f1, .int .i64 a.f2, .int .i64 a.f3, .bool a.f4] : List Value).toArray] w fun e w' => e = .returned (.tuple #[.int .i64 n, .bool ok]) ∧ Below w.heap.size w w')
    (hS : ∀ (A : Option Addr) (c : Nat) (w : World), Kd.C k40 w A l.length l → l.length ≤ c → Calls Try.prog 43 #[.slice A l.length c, .agg ([.int .i64 a.f0, .int .i64 a.f1, .int .i64 a.f2, .int .i64 a.f3, .bool a.f4] : List Value).toArray] w fun e w' => e = .returned (.tuple #[.int .i64 n, .bool ok]) ∧ Below w.heap.size w w')
    (hok : ok = true → goodS l = true ∧ okAx a = true ∧ l.length ≤ 10 ∧ anyS (lowB a n) l l.length = true ∧ anyS (highB a n) l l.length = true)
    (ly : List S40) (k2 k3 k4 k5 k6 k7 k8 k9 : Nat) (hD2 : spec_DrawYearMeans.f k2 l0 = some ly) (q : List (List Int)) (fb : Bool) (h38 : impl_YearMeans.f k3 ly = some (q, fb)) (h37 : spec_YearMeans.f k4 ly = some (q, fb)) (h47 : laws_rTable.f k5 q q = some true) (h31 : impl_AreSales.f k6 ly = some fb) (hly : ly.length ≤ 1048576) (hql : q.length ≤ 10) (hq3 : ∀ r, r ∈ q → r.length = 3) (hyq : fb = true → ∀ i, i < ly.length → hasY q (nth ly i z40).f0 q.length = true)
    (y1 y2 y3 y4 y5 : Int) (y6 : Bool) (y7 : Int) (hD3 : spec_DrawRatioOf.f k7 l0 = some (y1, y2, y3, y4, y5, y6, y7)) (p3 q3 : Int) (t3 : Bool) (h27 : impl_RatioOf.f k8 y1 y2 y3 y4 y5 y6 y7 = some (p3, q3, t3)) (h25 : spec_RatioOf.f k9 y1 y2 y3 y4 y5 y6 y7 = some (p3, q3, t3)) : Calls Try.prog 13 #[.slice A0 l0.length c0] w fun e w' => e = .returned (.bool true) ∧ Below w.heap.size w w' := by
  let Rr : Ending → World → Prop := fun e w' => e = .returned (.bool true) ∧ Below w.heap.size w w'
  refine enterW (args := [.slice A0 l0.length c0]) [(fun W => (Kd.int .u8).C W A0 l0.length l0)] (fun p hp W hb => by rw [List.mem_singleton.1 hp]; exact Kd.C_below hr0 hb) Try.func13 rfl rfl ?_
  show Cj Try.prog _ _ _ (bodyPost Try.prog Try.f13 Rr) _ _ _
  repeat (first
    | (apply gateO; first
      | refine Jl.yd (Y.mv rfl rfl) rfl rfl rfl ?_
      | refine Jl.yd (Y.asg rfl rfl) rfl rfl rfl ?_
      | refine Jl.yd (Y.ext rfl rfl rfl) rfl rfl rfl ?_
      | refine Jl.yd (Y.pickT rfl rfl rfl) rfl rfl rfl ?_
      | refine Jl.yd (Y.pickF rfl rfl rfl) rfl rfl rfl ?_
      | refine Jl.off rfl rfl rfl ?_
      | refine Jl.yd (Y.cmpF rfl rfl rfl rfl (by omega)) rfl rfl rfl ?_
      | refine Jl.yd (Y.cmpT rfl rfl rfl rfl (by omega)) rfl rfl rfl ?_
      | refine Jl.yd (Y.neqB rfl rfl rfl Try.underlying4) rfl rfl rfl ?_
      | refine Jl.yd (Y.cmp rfl rfl rfl rfl) rfl rfl rfl ?_
      | refine Jl.yd (Y.not rfl rfl) rfl rfl rfl ?_
      | refine Jl.yd (Y.arithN rfl rfl rfl rfl (by omega)) rfl rfl rfl ?_
      | refine Jl.yd (Y.arith64 rfl rfl rfl rfl) rfl rfl rfl ?_
      | refine Jl.yd (Y.loadA rfl rfl agg25 (by repeat (first | exact .head _ | refine .tail _ ?_)) (by rfl)) rfl rfl rfl ?_
      | refine Jl.alloc rfl rfl rfl rfl zero25 (fun g => ?_)
      | refine Jl.storeA rfl rfl rfl rfl rfl sz25 (by repeat (first | exact .z | apply SetAt.s)) (by rfl) (by rfl) ?_
      | refine Jl.call1 (v := .bool false) rfl rfl rfl rfl en33 rfl (fun w hW => by with_reducible exact big_ A0 c0 l0 false w (hW.fact (p := (fun W => (Kd.int .u8).C W A0 l0.length l0)) (by repeat (first | exact memH | refine memT ?_))) hc0 hbig) ?_
      | refine Jl.draw1 (fun v => .tuple #[v, .agg ([.int .i64 a.f0, .int .i64 a.f1, .int .i64 a.f2, .int .i64 a.f3, .bool a.f4] : List Value).toArray]) l rfl rfl rfl rfl en45 rfl (fun w hW => by with_reducible exact spec_DrawEstimateBy.calls k1 A0 c0 l0 l a.f0 a.f1 a.f2 a.f3 a.f4 w (hW.fact (p := (fun W => (Kd.int .u8).C W A0 l0.length l0)) (by repeat (first | exact memH | refine memT ?_))) hc0 hD1) (fun Al cl hcl => ?_)
      | refine Jl.call1 (v := .tuple #[.int .i64 n, .bool ok]) rfl rfl rfl rfl en44 rfl (fun w hW => by with_reducible exact hI Al cl w (hW.fact (p := (fun W => Kd.C k40 W Al l.length l)) (by repeat (first | exact memH | refine memT ?_))) hcl) ?_
      | refine Jl.call1 (v := .tuple #[.int .i64 n, .bool ok]) rfl rfl rfl rfl en43 rfl (fun w hW => by with_reducible exact hS Al cl w (hW.fact (p := (fun W => Kd.C k40 W Al l.length l)) (by repeat (first | exact memH | refine memT ?_))) hcl) ?_
      | refine Jl.splitG rfl rfl (fun h => ?_) (fun h => ?_))
    | (apply gateE; first
      | refine Jl.nil (Ej.go ?_ (fun _ _ h => h))
      | (refine Jl.nil (Ej.back (fun _ _ h => h) (by repeat (first | exact .refl | apply DropTo.tail)) ?_); repeat (first | exact trivial | refine ⟨rfl, ?_⟩)))
    | (apply gateC; first
      | refine Cj.condF rfl rfl (Cj.skip rfl (Ej.go ?_ (fun _ _ h => h)))
      | (refine Cj.condF rfl rfl (Cj.skip rfl (Ej.back (fun _ _ h => h) (by repeat (first | exact .refl | apply DropTo.tail)) ?_)); repeat (first | exact trivial | refine ⟨rfl, ?_⟩))
      | refine Cj.condF rfl rfl ?_
      | refine Cj.condT rfl rfl ?_
      | refine Cj.exit rfl (Ej.go ?_ (fun _ _ h => h))
      | refine Cj.skip rfl (Ej.go ?_ (fun _ _ h => h))
      | (refine Cj.skip rfl (Ej.back (fun _ _ h => h) (by repeat (first | exact .refl | apply DropTo.tail)) ?_); repeat (first | exact trivial | refine ⟨rfl, ?_⟩))
      | refine Cj.seq rfl ?_
      | refine Cj.region rfl ?_))
  refine Cj.andThen (ι := Unit) (fun _ => True) (fun _ => [(0, .slice A0 l0.length c0)]) (fun _ => []) (fun _ => [(fun W => (Kd.int .u8).C W A0 l0.length l0)]) ?_ (fun _ _ => ?_)
  · cases ok with
    | false =>
      repeat (first
    | (apply gateO; first
      | refine Jl.yd (Y.mv rfl rfl) rfl rfl rfl ?_
      | refine Jl.yd (Y.asg rfl rfl) rfl rfl rfl ?_
      | refine Jl.yd (Y.ext rfl rfl rfl) rfl rfl rfl ?_
      | refine Jl.yd (Y.pickT rfl rfl rfl) rfl rfl rfl ?_
      | refine Jl.yd (Y.pickF rfl rfl rfl) rfl rfl rfl ?_
      | refine Jl.off rfl rfl rfl ?_
      | refine Jl.yd (Y.cmpF rfl rfl rfl rfl (by omega)) rfl rfl rfl ?_
      | refine Jl.yd (Y.cmpT rfl rfl rfl rfl (by omega)) rfl rfl rfl ?_
      | refine Jl.yd (Y.neqB rfl rfl rfl Try.underlying4) rfl rfl rfl ?_
      | refine Jl.yd (Y.cmp rfl rfl rfl rfl) rfl rfl rfl ?_
      | refine Jl.yd (Y.not rfl rfl) rfl rfl rfl ?_
      | refine Jl.yd (Y.arithN rfl rfl rfl rfl (by omega)) rfl rfl rfl ?_
      | refine Jl.yd (Y.arith64 rfl rfl rfl rfl) rfl rfl rfl ?_
      | refine Jl.splitG rfl rfl (fun h => ?_) (fun h => ?_))
    | (apply gateE; first
      | refine Jl.nil (Ej.go ?_ (fun _ _ h => h))
      | (refine Jl.nil (Ej.back (fun _ _ h => h) (by repeat (first | exact .refl | apply DropTo.tail)) ?_); repeat (first | exact trivial | refine ⟨rfl, ?_⟩)))
    | (apply gateC; first
      | refine Cj.skip rfl (Ej.cutP (ι := Unit) _ _ _ _ (fun _ _ h => h) () trivial ⟨rfl, trivial⟩ (by repeat (first | exact .nil | refine Pick.cons (by repeat (first | exact .z | apply OutAt.s)) ?_)) (fun p hp => by rw [List.mem_singleton.1 hp]; exact (by repeat (first | exact memH | refine memT ?_))))
      | refine Cj.condF rfl rfl (Cj.skip rfl (Ej.go ?_ (fun _ _ h => h)))
      | (refine Cj.condF rfl rfl (Cj.skip rfl (Ej.back (fun _ _ h => h) (by repeat (first | exact .refl | apply DropTo.tail)) ?_)); repeat (first | exact trivial | refine ⟨rfl, ?_⟩))
      | refine Cj.condF rfl rfl ?_
      | refine Cj.condT rfl rfl ?_
      | refine Cj.exit rfl (Ej.go ?_ (fun _ _ h => h))
      | refine Cj.cond rfl rfl (fun h => ?_) (fun h => ?_)
      | refine Cj.skip rfl (Ej.go ?_ (fun _ _ h => h))
      | (refine Cj.skip rfl (Ej.back (fun _ _ h => h) (by repeat (first | exact .refl | apply DropTo.tail)) ?_); repeat (first | exact trivial | refine ⟨rfl, ?_⟩))
      | refine Cj.seq rfl ?_
      | refine Cj.region rfl ?_))
    | true =>
      obtain ⟨hg, ha, hl10, hlow, hhigh⟩ := hok rfl
      have hb : impl_BaseOf.f a.f0 a.f1 a.f2 a.f3 a.f4 = some (bAx a, true) := by
        rw [iBaseOf, show okA a.f0 a.f1 a.f2 a.f3 = true from ha]; rfl
      repeat (first
    | (apply gateO; first
      | refine Jl.yd (Y.mv rfl rfl) rfl rfl rfl ?_
      | refine Jl.yd (Y.asg rfl rfl) rfl rfl rfl ?_
      | refine Jl.yd (Y.ext rfl rfl rfl) rfl rfl rfl ?_
      | refine Jl.yd (Y.pickT rfl rfl rfl) rfl rfl rfl ?_
      | refine Jl.yd (Y.pickF rfl rfl rfl) rfl rfl rfl ?_
      | refine Jl.off rfl rfl rfl ?_
      | refine Jl.yd (Y.cmpF rfl rfl rfl rfl (by omega)) rfl rfl rfl ?_
      | refine Jl.yd (Y.cmpT rfl rfl rfl rfl (by omega)) rfl rfl rfl ?_
      | refine Jl.yd (Y.neqB rfl rfl rfl Try.underlying4) rfl rfl rfl ?_
      | refine Jl.yd (Y.cmp rfl rfl rfl rfl) rfl rfl rfl ?_
      | refine Jl.yd (Y.not rfl rfl) rfl rfl rfl ?_
      | refine Jl.yd (Y.arithN rfl rfl rfl rfl (by omega)) rfl rfl rfl ?_
      | refine Jl.yd (Y.arith64 rfl rfl rfl rfl) rfl rfl rfl ?_
      | refine Jl.yd (Y.loadA rfl rfl agg25 (by repeat (first | exact .head _ | refine .tail _ ?_)) (by rfl)) rfl rfl rfl ?_
      | refine Jl.call1 (v := .tuple #[.int .i64 (bAx a), .bool true]) rfl rfl rfl rfl en20 rfl (fun w hW => by with_reducible first | exact impl_BaseOf.calls a.f0 a.f1 a.f2 a.f3 a.f4 (bAx a) true w hb | exact Calls.mono (impl_BaseOf.calls a.f0 a.f1 a.f2 a.f3 a.f4 (bAx a) true w hb) (fun _ _ hh => ⟨hh.1, hh.2.below⟩)) ?_
      | refine Jl.splitG rfl rfl (fun h => ?_) (fun h => ?_))
    | (apply gateE; first
      | refine Jl.nil (Ej.go ?_ (fun _ _ h => h))
      | (refine Jl.nil (Ej.back (fun _ _ h => h) (by repeat (first | exact .refl | apply DropTo.tail)) ?_); repeat (first | exact trivial | refine ⟨rfl, ?_⟩)))
    | (apply gateC; first
      | refine Cj.block rfl ?_
      | refine Cj.condF rfl rfl (Cj.skip rfl (Ej.go ?_ (fun _ _ h => h)))
      | (refine Cj.condF rfl rfl (Cj.skip rfl (Ej.back (fun _ _ h => h) (by repeat (first | exact .refl | apply DropTo.tail)) ?_)); repeat (first | exact trivial | refine ⟨rfl, ?_⟩))
      | refine Cj.condF rfl rfl ?_
      | refine Cj.condT rfl rfl ?_
      | refine Cj.exit rfl (Ej.go ?_ (fun _ _ h => h))
      | refine Cj.cond rfl rfl (fun h => ?_) (fun h => ?_)
      | refine Cj.skip rfl (Ej.go ?_ (fun _ _ h => h))
      | (refine Cj.skip rfl (Ej.back (fun _ _ h => h) (by repeat (first | exact .refl | apply DropTo.tail)) ?_); repeat (first | exact trivial | refine ⟨rfl, ?_⟩))
      | refine Cj.seq rfl ?_
      | refine Cj.region rfl ?_))
      refine Cj.loopP (ι := Nat × Bool × Bool) (fun q => q.1 ≤ l.length ∧ q.2.1 = anyS (lowB a n) l q.1 ∧ q.2.2 = anyS (highB a n) l q.1) (fun q => [(0, .slice A0 l0.length c0), (3, .slice Al l.length cl), (4, .pointer (some ⟨g, 0, none⟩)), (5, .int .i64 n), (9, .int .i64 (bAx a)), (10, .bool true), (11, .bool q.2.1), (12, .bool q.2.2), (13, .int .i64 (q.1 : Int))]) (fun q => [.box g 25 [.int .i64 a.f0, .int .i64 a.f1, .int .i64 a.f2, .int .i64 a.f3, .bool a.f4]]) (fun _ => [(fun W => Kd.C k40 W Al l.length l), (fun W => (Kd.int .u8).C W A0 l0.length l0)]) (fun q => l.length - q.1) rfl (0, false, false) ⟨Nat.zero_le _, rfl, rfl⟩ ⟨rfl, rfl, rfl, rfl, rfl, rfl, rfl, rfl, rfl, trivial⟩ (by repeat (first | exact .nil | refine Pick.cons (by repeat (first | exact .z | apply OutAt.s)) ?_)) (fun p hp => hp) (fun q hq => ?_)
      obtain ⟨i, lo, hi⟩ := q
      dsimp only at hq ⊢
      obtain ⟨hil, hlo, hhi⟩ := hq
      by_cases hlt : i < l.length
      · refine Cj.ws (ι := Addr) (fun ad => Al = some ad) (fun _ => [.box g 25 [.int .i64 a.f0, .int .i64 a.f1, .int .i64 a.f2, .int .i64 a.f3, .bool a.f4]]) (fun _ => [(fun W => Kd.C k40 W Al l.length l), (fun W => (Kd.int .u8).C W A0 l0.length l0)]) (fun w' hW => by
          have f3 : Kd.C k40 w' Al l.length l := hW.fact (p := (fun W => Kd.C k40 W Al l.length l)) (by repeat (first | exact memH | refine memT ?_))
          obtain ⟨b3, g3, _⟩ := f3.2.2 (by omega)
          exact ⟨b3, g3, hW⟩) (fun ad had => ?_)
        subst had
        obtain ⟨x, hx⟩ : ∃ x, nth l i z40 = x := ⟨_, rfl⟩
        have hokx : okSx x = true := hx ▸ (goodS_at hg).2.1 i hlt
        have hus : ([.int .i64 (l.getD ((i : Int)).toNat z40).f0, .int .i64 (l.getD ((i : Int)).toNat z40).f1.f0, .int .i64 (l.getD ((i : Int)).toNat z40).f1.f1, .int .i64 (l.getD ((i : Int)).toNat z40).f1.f2, .int .i64 (l.getD ((i : Int)).toNat z40).f1.f3, .bool (l.getD ((i : Int)).toNat z40).f1.f4, .int .i64 (l.getD ((i : Int)).toNat z40).f2] : List Value) = [.int .i64 x.f0, .int .i64 x.f1.f0, .int .i64 x.f1.f1, .int .i64 x.f1.f2, .int .i64 x.f1.f3, .bool x.f1.f4, .int .i64 x.f2] := by
          have hx2 : l.getD i z40 = x := hx
          rw [Int.toNat_natCast, hx2]
        obtain ⟨p, d, hR⟩ := rat_ok hokx
        obtain ⟨kr, hrt⟩ := hR.run.rounds
        obtain ⟨hqe, hm0, hm1⟩ := rat_q ha hokx hR
        have hd1 := hR.q1
        have hq2 : IntKind.i64.wrap (Int.tdiv (bAx a * p) d) = qB a x := by
          rw [hqe]
          refine wrapI ?_ ?_
          · rw [← hqe]; exact Int.tdiv_nonneg hm0 (by omega)
          · rw [← hqe, Int.tdiv_eq_ediv_of_nonneg hm0]
            have := Int.ediv_le_self d hm0
            omega
        have hL1 := anyS_succ (lowB a n) l i hlt
        have hH1 := anyS_succ (highB a n) l i hlt
        rw [hx, ← hlo] at hL1
        rw [hx, ← hhi] at hH1
        rw [show lowB a n x = (alS a x && decide (qB a x ≤ n)) from rfl] at hL1
        rw [show highB a n x = (alS a x && decide (qB a x ≥ n)) from rfl] at hH1
        have hal := alikeR hokx ha
        generalize alS a x = al at hL1 hH1 hal
        repeat (first
    | (apply gateO; first
      | refine Jl.yd (Y.mv rfl rfl) rfl rfl rfl ?_
      | refine Jl.yd (Y.asg rfl rfl) rfl rfl rfl ?_
      | refine Jl.yd (Y.ext rfl rfl rfl) rfl rfl rfl ?_
      | refine Jl.yd (Y.pickT rfl rfl rfl) rfl rfl rfl ?_
      | refine Jl.yd (Y.pickF rfl rfl rfl) rfl rfl rfl ?_
      | refine Jl.off rfl rfl rfl ?_
      | refine Jl.yd (Y.cmpF rfl rfl rfl rfl (by omega)) rfl rfl rfl ?_
      | refine Jl.yd (Y.cmpT rfl rfl rfl rfl (by omega)) rfl rfl rfl ?_
      | refine Jl.yd (Y.neqB rfl rfl rfl Try.underlying4) rfl rfl rfl ?_
      | refine Jl.yd (Y.cmp rfl rfl rfl rfl) rfl rfl rfl ?_
      | refine Jl.yd (Y.not rfl rfl) rfl rfl rfl ?_
      | refine Jl.yd (Y.arithN rfl rfl rfl rfl (by omega)) rfl rfl rfl ?_
      | refine Jl.yd (Y.arith64 rfl rfl rfl rfl) rfl rfl rfl ?_
      | refine Jl.yd (Y.loadA rfl rfl agg25 (by repeat (first | exact .head _ | refine .tail _ ?_)) (by rfl)) rfl rfl rfl ?_
      | refine Jl.yd (Y.lenS Try.underlying46 rfl rfl rfl) rfl rfl rfl ?_
      | refine Jl.yd (Y.idx rfl rfl rfl el46 (by omega) (by omega)) rfl rfl rfl ?_
      | refine Jl.yd (Y.fld rfl rfl fld40_1) rfl rfl rfl ?_
      | refine Jl.yd (Y.loadKS z40 [.int .i64 x.f0, .int .i64 x.f1.f0, .int .i64 x.f1.f1, .int .i64 x.f1.f2, .int .i64 x.f1.f3, .bool x.f1.f4, .int .i64 x.f2] [.int .i64 x.f1.f0, .int .i64 x.f1.f1, .int .i64 x.f1.f2, .int .i64 x.f1.f3, .bool x.f1.f4] 1 rfl rfl agg25 (by repeat (first | exact .head _ | refine .tail _ ?_)) ((i : Int)) (by omega) (by omega) rfl (fun w cs h => (k40_open h).trans hus) rfl rfl) rfl rfl rfl ?_
      | refine Jl.yd (Y.loadK z40 [.int .i64 x.f0, .int .i64 x.f1.f0, .int .i64 x.f1.f1, .int .i64 x.f1.f2, .int .i64 x.f1.f3, .bool x.f1.f4, .int .i64 x.f2] rfl rfl agg40 (by repeat (first | exact .head _ | refine .tail _ ?_)) ((i : Int)) (by omega) (by omega) (by rfl) (fun w cs h => (k40_open h).trans hus) (by rfl)) rfl rfl rfl ?_
      | refine Jl.yd (Y.loadA rfl rfl agg25 (by repeat (first | exact .head _ | refine .tail _ ?_)) (by rfl)) rfl rfl rfl ?_
      | refine Jl.call1 (v := .tuple #[.bool al, .bool true]) rfl rfl rfl rfl en18 rfl (fun w hW => by with_reducible first | exact impl_Alike.calls x.f1.f0 x.f1.f1 x.f1.f2 x.f1.f3 x.f1.f4 a.f0 a.f1 a.f2 a.f3 a.f4 al true w hal | exact Calls.mono (impl_Alike.calls x.f1.f0 x.f1.f1 x.f1.f2 x.f1.f3 x.f1.f4 a.f0 a.f1 a.f2 a.f3 a.f4 al true w hal) (fun _ _ hh => ⟨hh.1, hh.2.below⟩)) ?_
      | refine Jl.call1 (v := .tuple #[.int .i64 p, .int .i64 d, .bool true]) rfl rfl rfl rfl en27 rfl (fun w hW => by with_reducible first | exact impl_RatioOf.calls kr x.f0 x.f1.f0 x.f1.f1 x.f1.f2 x.f1.f3 x.f1.f4 x.f2 p d true w hrt | exact Calls.mono (impl_RatioOf.calls kr x.f0 x.f1.f0 x.f1.f1 x.f1.f2 x.f1.f3 x.f1.f4 x.f2 p d true w hrt) (fun _ _ hh => ⟨hh.1, hh.2.below⟩)) ?_
      | refine Jl.yd (Y.quoN (r := qB a x) rfl rfl rfl (by omega) hq2) rfl rfl rfl ?_
      | fail)
    | (apply gateE; first
      | refine Jl.nil (Ej.go ?_ (fun _ _ h => h))
      | (refine Jl.nil (Ej.back (fun _ _ h => h) (by repeat (first | exact .refl | apply DropTo.tail)) ?_); repeat (first | exact trivial | refine ⟨rfl, ?_⟩)))
    | (apply gateC; first
      | refine Cj.block rfl ?_
      | refine Cj.regionD rfl (mkD [0, 1, 2, 3, 4, 5, 7, 8, 9, 10, 11] []) [] [0, 1, 2, 3, 4, 5, 6, 7, 8, 9, 10, 11] mixed (by decide +kernel) ?_
      | refine Cj.condF rfl rfl (Cj.skip rfl (Ej.go ?_ (fun _ _ h => h)))
      | (refine Cj.condF rfl rfl (Cj.skip rfl (Ej.back (fun _ _ h => h) (by repeat (first | exact .refl | apply DropTo.tail)) ?_)); repeat (first | exact trivial | refine ⟨rfl, ?_⟩))
      | refine Cj.condF rfl rfl ?_
      | refine Cj.condT rfl rfl ?_
      | refine Cj.exit rfl (Ej.go ?_ (fun _ _ h => h))
      | refine Cj.cond rfl rfl (fun h => ?_) (fun h => ?_)
      | refine Cj.skip rfl (Ej.go ?_ (fun _ _ h => h))
      | (refine Cj.skip rfl (Ej.back (fun _ _ h => h) (by repeat (first | exact .refl | apply DropTo.tail)) ?_); repeat (first | exact trivial | refine ⟨rfl, ?_⟩))
      | refine Cj.seq rfl ?_
      | refine Cj.region rfl ?_))
        cases lo <;> cases al
        all_goals (
          repeat (first
    | (apply gateO; first
      | refine Jl.yd (Y.mv rfl rfl) rfl rfl rfl ?_
      | refine Jl.yd (Y.asg rfl rfl) rfl rfl rfl ?_
      | refine Jl.yd (Y.ext rfl rfl rfl) rfl rfl rfl ?_
      | refine Jl.yd (Y.pickT rfl rfl rfl) rfl rfl rfl ?_
      | refine Jl.yd (Y.pickF rfl rfl rfl) rfl rfl rfl ?_
      | refine Jl.off rfl rfl rfl ?_
      | refine Jl.yd (Y.cmpF rfl rfl rfl rfl (by omega)) rfl rfl rfl ?_
      | refine Jl.yd (Y.cmpT rfl rfl rfl rfl (by omega)) rfl rfl rfl ?_
      | refine Jl.yd (Y.neqB rfl rfl rfl Try.underlying4) rfl rfl rfl ?_
      | refine Jl.yd (Y.cmp rfl rfl rfl rfl) rfl rfl rfl ?_
      | refine Jl.yd (Y.not rfl rfl) rfl rfl rfl ?_
      | refine Jl.yd (Y.arithN rfl rfl rfl rfl (by omega)) rfl rfl rfl ?_
      | refine Jl.yd (Y.arith64 rfl rfl rfl rfl) rfl rfl rfl ?_
      | refine Jl.yd (Y.lenS Try.underlying46 rfl rfl rfl) rfl rfl rfl ?_
      | refine Jl.yd (Y.quoN (r := qB a x) rfl rfl rfl (by omega) hq2) rfl rfl rfl ?_
      | fail)
    | (apply gateE; first
      | refine Jl.nil (Ej.go ?_ (fun _ _ h => h))
      | (refine Jl.nil (Ej.back (fun _ _ h => h) (by repeat (first | exact .refl | apply DropTo.tail)) ?_); repeat (first | exact trivial | refine ⟨rfl, ?_⟩)))
    | (apply gateC; first
      | refine Cj.block rfl ?_
      | refine Cj.condF rfl rfl (Cj.skip rfl (Ej.go ?_ (fun _ _ h => h)))
      | (refine Cj.condF rfl rfl (Cj.skip rfl (Ej.back (fun _ _ h => h) (by repeat (first | exact .refl | apply DropTo.tail)) ?_)); repeat (first | exact trivial | refine ⟨rfl, ?_⟩))
      | refine Cj.condF rfl rfl ?_
      | refine Cj.condT rfl rfl ?_
      | refine Cj.exit rfl (Ej.go ?_ (fun _ _ h => h))
      | refine Cj.cond rfl rfl (fun h => ?_) (fun h => ?_)
      | refine Cj.skip rfl (Ej.go ?_ (fun _ _ h => h))
      | (refine Cj.skip rfl (Ej.back (fun _ _ h => h) (by repeat (first | exact .refl | apply DropTo.tail)) ?_); repeat (first | exact trivial | refine ⟨rfl, ?_⟩))
      | refine Cj.seq rfl ?_
      | refine Cj.region rfl ?_)))
        all_goals cases hi
        all_goals (
          repeat (first
    | (apply gateO; first
      | refine Jl.yd (Y.mv rfl rfl) rfl rfl rfl ?_
      | refine Jl.yd (Y.asg rfl rfl) rfl rfl rfl ?_
      | refine Jl.yd (Y.ext rfl rfl rfl) rfl rfl rfl ?_
      | refine Jl.yd (Y.pickT rfl rfl rfl) rfl rfl rfl ?_
      | refine Jl.yd (Y.pickF rfl rfl rfl) rfl rfl rfl ?_
      | refine Jl.off rfl rfl rfl ?_
      | refine Jl.yd (Y.cmpF rfl rfl rfl rfl (by omega)) rfl rfl rfl ?_
      | refine Jl.yd (Y.cmpT rfl rfl rfl rfl (by omega)) rfl rfl rfl ?_
      | refine Jl.yd (Y.neqB rfl rfl rfl Try.underlying4) rfl rfl rfl ?_
      | refine Jl.yd (Y.cmp rfl rfl rfl rfl) rfl rfl rfl ?_
      | refine Jl.yd (Y.not rfl rfl) rfl rfl rfl ?_
      | refine Jl.yd (Y.arithN rfl rfl rfl rfl (by omega)) rfl rfl rfl ?_
      | refine Jl.yd (Y.arith64 rfl rfl rfl rfl) rfl rfl rfl ?_
      | refine Jl.yd (Y.lenS Try.underlying46 rfl rfl rfl) rfl rfl rfl ?_
      | refine Jl.yd (Y.quoN (r := qB a x) rfl rfl rfl (by omega) hq2) rfl rfl rfl ?_
      | fail)
    | (apply gateE; first
      | refine Jl.nil (Ej.go ?_ (fun _ _ h => h))
      | (refine Jl.nil (Ej.back (fun _ _ h => h) (by repeat (first | exact .refl | apply DropTo.tail)) ?_); repeat (first | exact trivial | refine ⟨rfl, ?_⟩)))
    | (apply gateC; first
      | refine Cj.block rfl ?_
      | refine Cj.condF rfl rfl (Cj.skip rfl (Ej.go ?_ (fun _ _ h => h)))
      | (refine Cj.condF rfl rfl (Cj.skip rfl (Ej.back (fun _ _ h => h) (by repeat (first | exact .refl | apply DropTo.tail)) ?_)); repeat (first | exact trivial | refine ⟨rfl, ?_⟩))
      | refine Cj.condF rfl rfl ?_
      | refine Cj.condT rfl rfl ?_
      | refine Cj.exit rfl (Ej.go ?_ (fun _ _ h => h))
      | refine Cj.cond rfl rfl (fun h => ?_) (fun h => ?_)
      | refine Cj.skip rfl (Ej.go ?_ (fun _ _ h => h))
      | (refine Cj.skip rfl (Ej.back (fun _ _ h => h) (by repeat (first | exact .refl | apply DropTo.tail)) ?_); repeat (first | exact trivial | refine ⟨rfl, ?_⟩))
      | refine Cj.seq rfl ?_
      | refine Cj.region rfl ?_)))
        all_goals
          refine Jl.nil (Ej.cutP (ι := Nat × Bool × Bool) _ _ _ _ (fun _ _ h => h) (i + 1, anyS (lowB a n) l (i + 1), anyS (highB a n) l (i + 1)) ⟨⟨by dsimp only; omega, rfl, rfl⟩, by dsimp only; omega⟩ ⟨rfl, rfl, rfl, rfl, rfl, rfl, by dsimp only; rw [hL1]; rfl, by dsimp only; rw [hH1]; rfl, rfl, trivial⟩ (by repeat (first | exact .nil | refine Pick.cons (by repeat (first | exact .z | apply OutAt.s)) ?_)) (fun p hp => hp))
      · obtain rfl : i = l.length := by omega
        rw [hlow] at hlo
        rw [hhigh] at hhi
        subst hlo; subst hhi
        repeat (first
    | (apply gateO; first
      | refine Jl.yd (Y.mv rfl rfl) rfl rfl rfl ?_
      | refine Jl.yd (Y.asg rfl rfl) rfl rfl rfl ?_
      | refine Jl.yd (Y.ext rfl rfl rfl) rfl rfl rfl ?_
      | refine Jl.yd (Y.pickT rfl rfl rfl) rfl rfl rfl ?_
      | refine Jl.yd (Y.pickF rfl rfl rfl) rfl rfl rfl ?_
      | refine Jl.off rfl rfl rfl ?_
      | refine Jl.yd (Y.cmpF rfl rfl rfl rfl (by omega)) rfl rfl rfl ?_
      | refine Jl.yd (Y.cmpT rfl rfl rfl rfl (by omega)) rfl rfl rfl ?_
      | refine Jl.yd (Y.neqB rfl rfl rfl Try.underlying4) rfl rfl rfl ?_
      | refine Jl.yd (Y.cmp rfl rfl rfl rfl) rfl rfl rfl ?_
      | refine Jl.yd (Y.not rfl rfl) rfl rfl rfl ?_
      | refine Jl.yd (Y.arithN rfl rfl rfl rfl (by omega)) rfl rfl rfl ?_
      | refine Jl.yd (Y.arith64 rfl rfl rfl rfl) rfl rfl rfl ?_
      | refine Jl.yd (Y.lenS Try.underlying46 rfl rfl rfl) rfl rfl rfl ?_
      | refine Jl.splitG rfl rfl (fun h => ?_) (fun h => ?_))
    | (apply gateE; first
      | refine Jl.nil (Ej.go ?_ (fun _ _ h => h))
      | (refine Jl.nil (Ej.back (fun _ _ h => h) (by repeat (first | exact .refl | apply DropTo.tail)) ?_); repeat (first | exact trivial | refine ⟨rfl, ?_⟩)))
    | (apply gateC; first
      | refine Cj.block rfl ?_
      | refine Cj.skip rfl (Ej.cutP (ι := Unit) _ _ _ _ (fun _ _ h => h) () trivial ⟨rfl, trivial⟩ (by repeat (first | exact .nil | refine Pick.cons (by repeat (first | exact .z | apply OutAt.s)) ?_)) (fun p hp => by rw [List.mem_singleton.1 hp]; exact (by repeat (first | exact memH | refine memT ?_))))
      | refine Cj.condF rfl rfl (Cj.skip rfl (Ej.go ?_ (fun _ _ h => h)))
      | (refine Cj.condF rfl rfl (Cj.skip rfl (Ej.back (fun _ _ h => h) (by repeat (first | exact .refl | apply DropTo.tail)) ?_)); repeat (first | exact trivial | refine ⟨rfl, ?_⟩))
      | refine Cj.condF rfl rfl ?_
      | refine Cj.condT rfl rfl ?_
      | refine Cj.exit rfl (Ej.go ?_ (fun _ _ h => h))
      | refine Cj.cond rfl rfl (fun h => ?_) (fun h => ?_)
      | refine Cj.skip rfl (Ej.go ?_ (fun _ _ h => h))
      | (refine Cj.skip rfl (Ej.back (fun _ _ h => h) (by repeat (first | exact .refl | apply DropTo.tail)) ?_); repeat (first | exact trivial | refine ⟨rfl, ?_⟩))
      | refine Cj.seq rfl ?_
      | refine Cj.region rfl ?_))
  · repeat (first
    | (apply gateO; first
      | refine Jl.yd (Y.mv rfl rfl) rfl rfl rfl ?_
      | refine Jl.yd (Y.asg rfl rfl) rfl rfl rfl ?_
      | refine Jl.yd (Y.ext rfl rfl rfl) rfl rfl rfl ?_
      | refine Jl.yd (Y.pickT rfl rfl rfl) rfl rfl rfl ?_
      | refine Jl.yd (Y.pickF rfl rfl rfl) rfl rfl rfl ?_
      | refine Jl.off rfl rfl rfl ?_
      | refine Jl.yd (Y.cmpF rfl rfl rfl rfl (by omega)) rfl rfl rfl ?_
      | refine Jl.yd (Y.cmpT rfl rfl rfl rfl (by omega)) rfl rfl rfl ?_
      | refine Jl.yd (Y.neqB rfl rfl rfl Try.underlying4) rfl rfl rfl ?_
      | refine Jl.yd (Y.cmp rfl rfl rfl rfl) rfl rfl rfl ?_
      | refine Jl.yd (Y.not rfl rfl) rfl rfl rfl ?_
      | refine Jl.yd (Y.arithN rfl rfl rfl rfl (by omega)) rfl rfl rfl ?_
      | refine Jl.yd (Y.arith64 rfl rfl rfl rfl) rfl rfl rfl ?_
      | refine Jl.yd (Y.lenS Try.underlying46 rfl rfl rfl) rfl rfl rfl ?_
      | refine Jl.yd (Y.lenS Try.underlying57 rfl rfl rfl) rfl rfl rfl ?_
      | refine Jl.draw1 (fun v => v) ly rfl rfl rfl rfl en46 rfl (fun w hW => by with_reducible exact spec_DrawYearMeans.calls k2 A0 c0 l0 ly w (hW.fact (p := (fun W => (Kd.int .u8).C W A0 l0.length l0)) (by repeat (first | exact memH | refine memT ?_))) hc0 hD2) (fun Ay cy hcy => ?_)
      | refine Jl.callSV (eS := 69) (eI := 3) (xs := q) (fun v => .tuple #[v, .bool fb]) rfl rfl rfl rfl en38 rfl (fun w hW => by with_reducible exact impl_YearMeans.calls k3 Ay cy ly q fb w (hW.fact (p := (fun W => Kd.C k40 W Ay ly.length ly)) (by repeat (first | exact memH | refine memT ?_))) hcy h38) (fun Am cm vm hvm hcm => ?_)
      | refine Jl.callSV (eS := 69) (eI := 3) (xs := q) (fun v => .tuple #[v, .bool fb]) rfl rfl rfl rfl en37 rfl (fun w hW => by with_reducible exact spec_YearMeans.calls k4 Ay cy ly q fb w (hW.fact (p := (fun W => Kd.C k40 W Ay ly.length ly)) (by repeat (first | exact memH | refine memT ?_))) hcy h37) (fun An cn vn hvn hcn => ?_)
      | refine Jl.call1 (v := .bool true) rfl rfl rfl rfl en47 rfl (fun w' hW => by with_reducible exact table_ (hW.fact (p := GV 69 3 w.heap.size (.slice Am vm.length cm) vm q) (by repeat (first | exact memH | refine memT ?_))) (hW.fact (p := GV 69 3 w.heap.size (.slice An vn.length cn) vn q) (by repeat (first | exact memH | refine memT ?_))) h47) ?_
      | refine Jl.call1 (v := .bool fb) rfl rfl rfl rfl en31 rfl (fun w hW => by with_reducible first | exact impl_AreSales.calls k6 Ay cy ly fb w (hW.fact (p := (fun W => Kd.C k40 W Ay ly.length ly)) (by repeat (first | exact memH | refine memT ?_))) hcy h31 | exact Calls.mono (impl_AreSales.calls k6 Ay cy ly fb w (hW.fact (p := (fun W => Kd.C k40 W Ay ly.length ly)) (by repeat (first | exact memH | refine memT ?_))) hcy h31) (fun _ _ hh => ⟨hh.1, hh.2.below⟩)) ?_
      | refine Jl.yd (eqBB rfl rfl rfl Try.underlying4) rfl rfl rfl ?_
      | refine Jl.splitG rfl rfl (fun h => ?_) (fun h => ?_))
    | (apply gateE; first
      | refine Jl.nil (Ej.go ?_ (fun _ _ h => h))
      | (refine Jl.nil (Ej.back (fun _ _ h => h) (by repeat (first | exact .refl | apply DropTo.tail)) ?_); repeat (first | exact trivial | refine ⟨rfl, ?_⟩)))
    | (apply gateC; first
      | refine Cj.block rfl ?_
      | refine Cj.condF rfl rfl (Cj.skip rfl (Ej.go ?_ (fun _ _ h => h)))
      | (refine Cj.condF rfl rfl (Cj.skip rfl (Ej.back (fun _ _ h => h) (by repeat (first | exact .refl | apply DropTo.tail)) ?_)); repeat (first | exact trivial | refine ⟨rfl, ?_⟩))
      | refine Cj.condF rfl rfl ?_
      | refine Cj.condT rfl rfl ?_
      | refine Cj.exit rfl (Ej.go ?_ (fun _ _ h => h))
      | refine Cj.cond rfl rfl (fun h => ?_) (fun h => ?_)
      | refine Cj.skip rfl (Ej.go ?_ (fun _ _ h => h))
      | (refine Cj.skip rfl (Ej.back (fun _ _ h => h) (by repeat (first | exact .refl | apply DropTo.tail)) ?_); repeat (first | exact trivial | refine ⟨rfl, ?_⟩))
      | refine Cj.seq rfl ?_
      | refine Cj.region rfl ?_))
    cases fb with
    | false =>
      refine Cj.loopP (ι := Unit) (fun _ => True) (fun _ => [(0, .slice A0 l0.length c0), (19, .slice Ay ly.length cy), (20, .slice Am vm.length cm), (21, .bool false), (24, .int .i64 ((0 : Nat) : Int))]) (fun _ => []) (fun _ => [GV 69 3 w.heap.size (.slice Am vm.length cm) vm q, (fun W => Kd.C k40 W Ay ly.length ly), (fun W => (Kd.int .u8).C W A0 l0.length l0)]) (fun _ => 0) rfl () trivial ⟨rfl, rfl, rfl, rfl, rfl, trivial⟩ (by repeat (first | exact .nil | refine Pick.cons (by repeat (first | exact .z | apply OutAt.s)) ?_)) (fun p hp => by
      rcases List.mem_cons.1 hp with rfl | hp
      · exact (by repeat (first | exact memH | refine memT ?_))
      rcases List.mem_cons.1 hp with rfl | hp
      · exact (by repeat (first | exact memH | refine memT ?_))
      rw [List.mem_singleton.1 hp]; exact (by repeat (first | exact memH | refine memT ?_))) (fun _ _ => ?_)
      repeat (first
    | (apply gateO; first
      | refine Jl.yd (Y.mv rfl rfl) rfl rfl rfl ?_
      | refine Jl.yd (Y.asg rfl rfl) rfl rfl rfl ?_
      | refine Jl.yd (Y.ext rfl rfl rfl) rfl rfl rfl ?_
      | refine Jl.yd (Y.pickT rfl rfl rfl) rfl rfl rfl ?_
      | refine Jl.yd (Y.pickF rfl rfl rfl) rfl rfl rfl ?_
      | refine Jl.off rfl rfl rfl ?_
      | refine Jl.yd (Y.cmpF rfl rfl rfl rfl (by omega)) rfl rfl rfl ?_
      | refine Jl.yd (Y.cmpT rfl rfl rfl rfl (by omega)) rfl rfl rfl ?_
      | refine Jl.yd (Y.neqB rfl rfl rfl Try.underlying4) rfl rfl rfl ?_
      | refine Jl.yd (Y.cmp rfl rfl rfl rfl) rfl rfl rfl ?_
      | refine Jl.yd (Y.not rfl rfl) rfl rfl rfl ?_
      | refine Jl.yd (Y.arithN rfl rfl rfl rfl (by omega)) rfl rfl rfl ?_
      | refine Jl.yd (Y.arith64 rfl rfl rfl rfl) rfl rfl rfl ?_
      | refine Jl.yd (Y.loadA rfl rfl agg40 (by repeat (first | exact .head _ | refine .tail _ ?_)) (by rfl)) rfl rfl rfl ?_
      | refine Jl.alloc rfl rfl rfl rfl zero40 (fun g => ?_)
      | refine Jl.storeA rfl rfl rfl rfl rfl sz40 (by repeat (first | exact .z | apply SetAt.s)) (by rfl) (by rfl) ?_
      | refine Jl.yd (Y.lenS Try.underlying46 rfl rfl rfl) rfl rfl rfl ?_
      | refine Jl.yd (Y.lenS Try.underlying57 rfl rfl rfl) rfl rfl rfl ?_
      | refine Jl.call1 (v := .agg #[.int .i64 y1, .int .i64 y2, .int .i64 y3, .int .i64 y4, .int .i64 y5, .bool y6, .int .i64 y7]) rfl rfl rfl rfl en49 rfl (fun w hW => by with_reducible exact spec_DrawRatioOf.calls k7 A0 c0 l0 y1 y2 y3 y4 y5 y6 y7 w (hW.fact (p := (fun W => (Kd.int .u8).C W A0 l0.length l0)) (by repeat (first | exact memH | refine memT ?_))) hc0 hD3) ?_
      | refine Jl.call1 (v := .tuple #[.int .i64 p3, .int .i64 q3, .bool t3]) rfl rfl rfl rfl en27 rfl (fun w hW => by with_reducible first | exact impl_RatioOf.calls k8 y1 y2 y3 y4 y5 y6 y7 p3 q3 t3 w h27 | exact Calls.mono (impl_RatioOf.calls k8 y1 y2 y3 y4 y5 y6 y7 p3 q3 t3 w h27) (fun _ _ hh => ⟨hh.1, hh.2.below⟩)) ?_
      | refine Jl.call1 (v := .tuple #[.int .i64 p3, .int .i64 q3, .bool t3]) rfl rfl rfl rfl en25 rfl (fun w hW => by with_reducible first | exact spec_RatioOf.calls k9 y1 y2 y3 y4 y5 y6 y7 p3 q3 t3 w h25 | exact Calls.mono (spec_RatioOf.calls k9 y1 y2 y3 y4 y5 y6 y7 p3 q3 t3 w h25) (fun _ _ hh => ⟨hh.1, hh.2.below⟩)) ?_
      | refine Jl.yd (eqBB rfl rfl rfl Try.underlying4) rfl rfl rfl ?_
      | refine Jl.splitG rfl rfl (fun h => ?_) (fun h => ?_))
    | (apply gateE; first
      | refine Jl.nil (Ej.go ?_ (fun _ _ h => h))
      | (refine Jl.nil (Ej.back (fun _ _ h => h) (by repeat (first | exact .refl | apply DropTo.tail)) ?_); repeat (first | exact trivial | refine ⟨rfl, ?_⟩)))
    | (apply gateC; first
      | refine Cj.block rfl ?_
      | refine Cj.ret rfl (Ej.out1 (P := Try.prog) (fn := Try.f13) (R := Rr) (fun _ _ h => h) rfl rfl (fun w' hW => ⟨rfl, hW.below⟩))
      | refine Cj.condF rfl rfl (Cj.skip rfl (Ej.go ?_ (fun _ _ h => h)))
      | (refine Cj.condF rfl rfl (Cj.skip rfl (Ej.back (fun _ _ h => h) (by repeat (first | exact .refl | apply DropTo.tail)) ?_)); repeat (first | exact trivial | refine ⟨rfl, ?_⟩))
      | refine Cj.condF rfl rfl ?_
      | refine Cj.condT rfl rfl ?_
      | refine Cj.exit rfl (Ej.go ?_ (fun _ _ h => h))
      | refine Cj.cond rfl rfl (fun h => ?_) (fun h => ?_)
      | refine Cj.skip rfl (Ej.go ?_ (fun _ _ h => h))
      | (refine Cj.skip rfl (Ej.back (fun _ _ h => h) (by repeat (first | exact .refl | apply DropTo.tail)) ?_); repeat (first | exact trivial | refine ⟨rfl, ?_⟩))
      | refine Cj.seq rfl ?_
      | refine Cj.region rfl ?_))
    | true =>
      have hyq := hyq rfl
      refine Cj.loopP (ι := Nat) (fun i => i ≤ ly.length) (fun i => [(0, .slice A0 l0.length c0), (19, .slice Ay ly.length cy), (20, .slice Am vm.length cm), (21, .bool true), (24, .int .i64 (i : Int))]) (fun _ => []) (fun _ => [GV 69 3 w.heap.size (.slice Am vm.length cm) vm q, (fun W => Kd.C k40 W Ay ly.length ly), (fun W => (Kd.int .u8).C W A0 l0.length l0)]) (fun i => ly.length - i) rfl 0 (Nat.zero_le _) ⟨rfl, rfl, rfl, rfl, rfl, trivial⟩ (by repeat (first | exact .nil | refine Pick.cons (by repeat (first | exact .z | apply OutAt.s)) ?_)) (fun p hp => by
      rcases List.mem_cons.1 hp with rfl | hp
      · exact (by repeat (first | exact memH | refine memT ?_))
      rcases List.mem_cons.1 hp with rfl | hp
      · exact (by repeat (first | exact memH | refine memT ?_))
      rw [List.mem_singleton.1 hp]; exact (by repeat (first | exact memH | refine memT ?_))) (fun i hi => ?_)
      by_cases hlt : i < ly.length
      · refine Cj.ws (ι := Addr) (fun ad => Ay = some ad) (fun _ => []) (fun _ => [GV 69 3 w.heap.size (.slice Am vm.length cm) vm q, (fun W => Kd.C k40 W Ay ly.length ly), (fun W => (Kd.int .u8).C W A0 l0.length l0)]) (fun w' hW => by
          have f3 : Kd.C k40 w' Ay ly.length ly := hW.fact (p := (fun W => Kd.C k40 W Ay ly.length ly)) (by repeat (first | exact memH | refine memT ?_))
          obtain ⟨b3, g3, _⟩ := f3.2.2 (by omega)
          exact ⟨b3, g3, hW⟩) (fun ad had => ?_)
        subst had
        obtain ⟨x, hx⟩ : ∃ x, nth ly i z40 = x := ⟨_, rfl⟩
        have hus : ([.int .i64 (ly.getD ((i : Int)).toNat z40).f0, .int .i64 (ly.getD ((i : Int)).toNat z40).f1.f0, .int .i64 (ly.getD ((i : Int)).toNat z40).f1.f1, .int .i64 (ly.getD ((i : Int)).toNat z40).f1.f2, .int .i64 (ly.getD ((i : Int)).toNat z40).f1.f3, .bool (ly.getD ((i : Int)).toNat z40).f1.f4, .int .i64 (ly.getD ((i : Int)).toNat z40).f2] : List Value) = [.int .i64 x.f0, .int .i64 x.f1.f0, .int .i64 x.f1.f1, .int .i64 x.f1.f2, .int .i64 x.f1.f3, .bool x.f1.f4, .int .i64 x.f2] := by
          have hx2 : ly.getD i z40 = x := hx
          rw [Int.toNat_natCast, hx2]
        have hall := hyq i hlt
        rw [hx] at hall
        repeat (first
    | (apply gateO; first
      | refine Jl.yd (Y.mv rfl rfl) rfl rfl rfl ?_
      | refine Jl.yd (Y.asg rfl rfl) rfl rfl rfl ?_
      | refine Jl.yd (Y.ext rfl rfl rfl) rfl rfl rfl ?_
      | refine Jl.yd (Y.pickT rfl rfl rfl) rfl rfl rfl ?_
      | refine Jl.yd (Y.pickF rfl rfl rfl) rfl rfl rfl ?_
      | refine Jl.off rfl rfl rfl ?_
      | refine Jl.yd (Y.cmpF rfl rfl rfl rfl (by omega)) rfl rfl rfl ?_
      | refine Jl.yd (Y.cmpT rfl rfl rfl rfl (by omega)) rfl rfl rfl ?_
      | refine Jl.yd (Y.neqB rfl rfl rfl Try.underlying4) rfl rfl rfl ?_
      | refine Jl.yd (Y.cmp rfl rfl rfl rfl) rfl rfl rfl ?_
      | refine Jl.yd (Y.not rfl rfl) rfl rfl rfl ?_
      | refine Jl.yd (Y.arithN rfl rfl rfl rfl (by omega)) rfl rfl rfl ?_
      | refine Jl.yd (Y.arith64 rfl rfl rfl rfl) rfl rfl rfl ?_
      | refine Jl.yd (Y.lenS Try.underlying46 rfl rfl rfl) rfl rfl rfl ?_
      | refine Jl.yd (Y.lenS Try.underlying57 rfl rfl rfl) rfl rfl rfl ?_
      | refine Jl.splitG rfl rfl (fun h => ?_) (fun h => ?_))
    | (apply gateE; first
      | refine Jl.nil (Ej.go ?_ (fun _ _ h => h))
      | (refine Jl.nil (Ej.back (fun _ _ h => h) (by repeat (first | exact .refl | apply DropTo.tail)) ?_); repeat (first | exact trivial | refine ⟨rfl, ?_⟩)))
    | (apply gateC; first
      | refine Cj.block rfl ?_
      | refine Cj.condF rfl rfl (Cj.skip rfl (Ej.go ?_ (fun _ _ h => h)))
      | (refine Cj.condF rfl rfl (Cj.skip rfl (Ej.back (fun _ _ h => h) (by repeat (first | exact .refl | apply DropTo.tail)) ?_)); repeat (first | exact trivial | refine ⟨rfl, ?_⟩))
      | refine Cj.condF rfl rfl ?_
      | refine Cj.condT rfl rfl ?_
      | refine Cj.exit rfl (Ej.go ?_ (fun _ _ h => h))
      | refine Cj.cond rfl rfl (fun h => ?_) (fun h => ?_)
      | refine Cj.skip rfl (Ej.go ?_ (fun _ _ h => h))
      | (refine Cj.skip rfl (Ej.back (fun _ _ h => h) (by repeat (first | exact .refl | apply DropTo.tail)) ?_); repeat (first | exact trivial | refine ⟨rfl, ?_⟩))
      | refine Cj.seq rfl ?_
      | refine Cj.region rfl ?_))
        refine Cj.loopP (ι := Nat) (fun k => k ≤ q.length) (fun k => [(0, .slice A0 l0.length c0), (19, .slice (some ad) ly.length cy), (20, .slice Am vm.length cm), (21, .bool true), (24, .int .i64 (i : Int)), (25, .bool (hasY q x.f0 k)), (26, .int .i64 (k : Int))]) (fun _ => []) (fun _ => [GV 69 3 w.heap.size (.slice Am vm.length cm) vm q, (fun W => Kd.C k40 W (some ad) ly.length ly), (fun W => (Kd.int .u8).C W A0 l0.length l0)]) (fun k => q.length - k) rfl 0 (Nat.zero_le _) ⟨rfl, rfl, rfl, rfl, rfl, rfl, rfl, trivial⟩ (by repeat (first | exact .nil | refine Pick.cons (by repeat (first | exact .z | apply OutAt.s)) ?_)) (fun p hp => hp) (fun k hk => ?_)
        by_cases hkt : k < q.length
        · have hr3 := hq3 _ (nth_mem (z := []) hkt)
          obtain ⟨p, r, hr⟩ : ∃ p r, nth q k [] = p :: r := by
            cases he : nth q k [] with
            | nil => rw [he] at hr3; cases hr3
            | cons p r => exact ⟨p, r, rfl⟩
          have hxq : q[k]? = some (p :: r) := by rw [← hr, nth_get hkt]; exact List.getElem?_eq_getElem hkt
          have hH1 := hasY_succ q x.f0 k hkt
          rw [hr, show (p :: r).getD 0 0 = p from rfl] at hH1
          obtain ⟨kh, h48⟩ := (hasE p x.f0).rounds
          have hvk : k < vm.length := by omega
          refine Cj.ws (ι := Nat × Nat × Nat) (fun i => Am = some ⟨i.1, 0, none⟩ ∧ vm[k]? = some (.slice (some ⟨i.2.1, 0, none⟩) (r.length + 1) i.2.2) ∧ r.length + 1 ≤ i.2.2) (fun _ => []) (fun i => (fun W => KJ.C W (some ⟨i.2.1, 0, none⟩) ([p] : List Int).length [p]) :: [GV 69 3 w.heap.size (.slice Am vm.length cm) vm q, (fun W => Kd.C k40 W (some ad) ly.length ly), (fun W => (Kd.int .u8).C W A0 l0.length l0)]) (fun w' hW => by
            have f1 : (GV 69 3 w.heap.size (.slice Am vm.length cm) vm q) w' := hW.fact (p := (GV 69 3 w.heap.size (.slice Am vm.length cm) vm q)) (by repeat (first | exact memH | refine memT ?_))
            rcases row_form f1.row with ⟨c, e, e0⟩ | ⟨ga, c, e⟩
            · have : vm.length = 0 := by have := congrArg List.length e0; simpa using this
              omega
            · injection e with e1 e2 e3
              obtain ⟨j, ⟨h1, h2⟩, h3⟩ := hW.el1 (p := p) (r := r) (u := vm[k]) (G := (GV 69 3 w.heap.size (.slice Am vm.length cm) vm q)) (by repeat (first | exact memH | refine memT ?_)) rfl hxq (List.getElem?_eq_getElem hvk)
              exact ⟨(ga, j.1, j.2), ⟨e1, by rw [List.getElem?_eq_getElem hvk, h1], h2⟩, h3⟩) (fun j hj => ?_)
          obtain ⟨ga, gr, cr⟩ := j
          dsimp only at hj ⊢
          obtain ⟨rfl, hvv, hcr⟩ := hj
          cases hF : hasY q x.f0 k
          all_goals (
            rw [hF] at hH1
            repeat (first
    | (apply gateO; first
      | refine Jl.yd (Y.mv rfl rfl) rfl rfl rfl ?_
      | refine Jl.yd (Y.asg rfl rfl) rfl rfl rfl ?_
      | refine Jl.yd (Y.ext rfl rfl rfl) rfl rfl rfl ?_
      | refine Jl.yd (Y.pickT rfl rfl rfl) rfl rfl rfl ?_
      | refine Jl.yd (Y.pickF rfl rfl rfl) rfl rfl rfl ?_
      | refine Jl.off rfl rfl rfl ?_
      | refine Jl.yd (Y.cmpF rfl rfl rfl rfl (by omega)) rfl rfl rfl ?_
      | refine Jl.yd (Y.cmpT rfl rfl rfl rfl (by omega)) rfl rfl rfl ?_
      | refine Jl.yd (Y.neqB rfl rfl rfl Try.underlying4) rfl rfl rfl ?_
      | refine Jl.yd (Y.cmp rfl rfl rfl rfl) rfl rfl rfl ?_
      | refine Jl.yd (Y.not rfl rfl) rfl rfl rfl ?_
      | refine Jl.yd (Y.arithN rfl rfl rfl rfl (by omega)) rfl rfl rfl ?_
      | refine Jl.yd (Y.arith64 rfl rfl rfl rfl) rfl rfl rfl ?_
      | refine Jl.yd (Y.lenS Try.underlying46 rfl rfl rfl) rfl rfl rfl ?_
      | refine Jl.yd (Y.lenS Try.underlying57 rfl rfl rfl) rfl rfl rfl ?_
      | refine Jl.yd (Y.idx rfl rfl rfl el57 (by omega) (by omega)) rfl rfl rfl ?_
      | refine Jl.yd (Y.loadV (eS := 69) (eI := 3) (b := w.heap.size) (vs := vm) (xs := q) rfl rfl sc69 (by repeat (first | exact .head _ | refine .tail _ ?_)) (k : Int) (by omega) (by omega) rfl (by rw [Int.toNat_natCast]; exact hvv)) rfl rfl rfl ?_
      | refine Jl.yd (Y.sliceH rfl rfl rfl el69 (by omega) (by omega)) rfl rfl rfl ?_
      | refine Jl.yd (Y.idx rfl rfl rfl el46 (by omega) (by omega)) rfl rfl rfl ?_
      | refine Jl.yd (Y.fld rfl rfl fld40_0) rfl rfl rfl ?_
      | refine Jl.yd (Y.loadK1 z40 [.int .i64 x.f0, .int .i64 x.f1.f0, .int .i64 x.f1.f1, .int .i64 x.f1.f2, .int .i64 x.f1.f3, .bool x.f1.f4, .int .i64 x.f2] rfl rfl sc3 (by repeat (first | exact .head _ | refine .tail _ ?_)) ((i : Int)) 0 (by omega) (by omega) (by rfl) (fun w cs h => (k40_open h).trans hus) rfl) rfl rfl rfl ?_
      | refine Jl.call1 (v := .bool (p == x.f0)) rfl rfl rfl rfl en48 rfl (fun w' hW => by with_reducible exact has_ (hW.at 0 rfl) (by omega) h48) ?_
      | fail)
    | (apply gateE; first
      | refine Jl.nil (Ej.go ?_ (fun _ _ h => h))
      | (refine Jl.nil (Ej.back (fun _ _ h => h) (by repeat (first | exact .refl | apply DropTo.tail)) ?_); repeat (first | exact trivial | refine ⟨rfl, ?_⟩)))
    | (apply gateC; first
      | refine Cj.block rfl ?_
      | refine Cj.regionD rfl (mkD [0, 1, 2, 3, 4, 5, 6, 7, 8, 9, 10, 11, 13, 14] []) [] [0, 1, 2, 3, 4, 5, 6, 7, 8, 9, 10, 11, 12, 13, 14] mixed (by decide +kernel) ?_
      | refine Cj.condF rfl rfl (Cj.skip rfl (Ej.go ?_ (fun _ _ h => h)))
      | (refine Cj.condF rfl rfl (Cj.skip rfl (Ej.back (fun _ _ h => h) (by repeat (first | exact .refl | apply DropTo.tail)) ?_)); repeat (first | exact trivial | refine ⟨rfl, ?_⟩))
      | refine Cj.condF rfl rfl ?_
      | refine Cj.condT rfl rfl ?_
      | refine Cj.exit rfl (Ej.go ?_ (fun _ _ h => h))
      | refine Cj.cond rfl rfl (fun h => ?_) (fun h => ?_)
      | refine Cj.skip rfl (Ej.go ?_ (fun _ _ h => h))
      | (refine Cj.skip rfl (Ej.back (fun _ _ h => h) (by repeat (first | exact .refl | apply DropTo.tail)) ?_); repeat (first | exact trivial | refine ⟨rfl, ?_⟩))
      | refine Cj.seq rfl ?_
      | refine Cj.region rfl ?_)))
          all_goals
            refine Jl.nil (Ej.cutP (ι := Nat) _ _ _ _ (fun _ _ h => h) (k + 1) ⟨by omega, by omega⟩ ⟨rfl, rfl, rfl, rfl, rfl, by rw [hH1]; rfl, rfl, trivial⟩ (by repeat (first | exact .nil | refine Pick.cons (by repeat (first | exact .z | apply OutAt.s)) ?_)) (fun p hp => .tail _ hp))
        · obtain rfl : k = q.length := by omega
          rw [hall]
          repeat (first
    | (apply gateO; first
      | refine Jl.yd (Y.mv rfl rfl) rfl rfl rfl ?_
      | refine Jl.yd (Y.asg rfl rfl) rfl rfl rfl ?_
      | refine Jl.yd (Y.ext rfl rfl rfl) rfl rfl rfl ?_
      | refine Jl.yd (Y.pickT rfl rfl rfl) rfl rfl rfl ?_
      | refine Jl.yd (Y.pickF rfl rfl rfl) rfl rfl rfl ?_
      | refine Jl.off rfl rfl rfl ?_
      | refine Jl.yd (Y.cmpF rfl rfl rfl rfl (by omega)) rfl rfl rfl ?_
      | refine Jl.yd (Y.cmpT rfl rfl rfl rfl (by omega)) rfl rfl rfl ?_
      | refine Jl.yd (Y.neqB rfl rfl rfl Try.underlying4) rfl rfl rfl ?_
      | refine Jl.yd (Y.cmp rfl rfl rfl rfl) rfl rfl rfl ?_
      | refine Jl.yd (Y.not rfl rfl) rfl rfl rfl ?_
      | refine Jl.yd (Y.arithN rfl rfl rfl rfl (by omega)) rfl rfl rfl ?_
      | refine Jl.yd (Y.arith64 rfl rfl rfl rfl) rfl rfl rfl ?_
      | refine Jl.yd (Y.lenS Try.underlying46 rfl rfl rfl) rfl rfl rfl ?_
      | refine Jl.yd (Y.lenS Try.underlying57 rfl rfl rfl) rfl rfl rfl ?_
      | refine Jl.splitG rfl rfl (fun h => ?_) (fun h => ?_))
    | (apply gateE; first
      | refine Jl.nil (Ej.go ?_ (fun _ _ h => h))
      | (refine Jl.nil (Ej.back (fun _ _ h => h) (by repeat (first | exact .refl | apply DropTo.tail)) ?_); repeat (first | exact trivial | refine ⟨rfl, ?_⟩)))
    | (apply gateC; first
      | refine Cj.block rfl ?_
      | refine Cj.condF rfl rfl (Cj.skip rfl (Ej.go ?_ (fun _ _ h => h)))
      | (refine Cj.condF rfl rfl (Cj.skip rfl (Ej.back (fun _ _ h => h) (by repeat (first | exact .refl | apply DropTo.tail)) ?_)); repeat (first | exact trivial | refine ⟨rfl, ?_⟩))
      | refine Cj.condF rfl rfl ?_
      | refine Cj.condT rfl rfl ?_
      | refine Cj.exit rfl (Ej.go ?_ (fun _ _ h => h))
      | refine Cj.cond rfl rfl (fun h => ?_) (fun h => ?_)
      | refine Cj.skip rfl (Ej.go ?_ (fun _ _ h => h))
      | (refine Cj.skip rfl (Ej.back (fun _ _ h => h) (by repeat (first | exact .refl | apply DropTo.tail)) ?_); repeat (first | exact trivial | refine ⟨rfl, ?_⟩))
      | refine Cj.seq rfl ?_
      | refine Cj.region rfl ?_))
          refine Jl.nil (Ej.cutP (ι := Nat) _ _ _ _ (fun _ _ h => h) (i + 1) ⟨by omega, by omega⟩ ⟨rfl, rfl, rfl, rfl, rfl, trivial⟩ (by repeat (first | exact .nil | refine Pick.cons (by repeat (first | exact .z | apply OutAt.s)) ?_)) (fun p hp => hp))
      · obtain rfl : i = ly.length := by omega
        repeat (first
    | (apply gateO; first
      | refine Jl.yd (Y.mv rfl rfl) rfl rfl rfl ?_
      | refine Jl.yd (Y.asg rfl rfl) rfl rfl rfl ?_
      | refine Jl.yd (Y.ext rfl rfl rfl) rfl rfl rfl ?_
      | refine Jl.yd (Y.pickT rfl rfl rfl) rfl rfl rfl ?_
      | refine Jl.yd (Y.pickF rfl rfl rfl) rfl rfl rfl ?_
      | refine Jl.off rfl rfl rfl ?_
      | refine Jl.yd (Y.cmpF rfl rfl rfl rfl (by omega)) rfl rfl rfl ?_
      | refine Jl.yd (Y.cmpT rfl rfl rfl rfl (by omega)) rfl rfl rfl ?_
      | refine Jl.yd (Y.neqB rfl rfl rfl Try.underlying4) rfl rfl rfl ?_
      | refine Jl.yd (Y.cmp rfl rfl rfl rfl) rfl rfl rfl ?_
      | refine Jl.yd (Y.not rfl rfl) rfl rfl rfl ?_
      | refine Jl.yd (Y.arithN rfl rfl rfl rfl (by omega)) rfl rfl rfl ?_
      | refine Jl.yd (Y.arith64 rfl rfl rfl rfl) rfl rfl rfl ?_
      | refine Jl.yd (Y.loadA rfl rfl agg40 (by repeat (first | exact .head _ | refine .tail _ ?_)) (by rfl)) rfl rfl rfl ?_
      | refine Jl.alloc rfl rfl rfl rfl zero40 (fun g => ?_)
      | refine Jl.storeA rfl rfl rfl rfl rfl sz40 (by repeat (first | exact .z | apply SetAt.s)) (by rfl) (by rfl) ?_
      | refine Jl.yd (Y.lenS Try.underlying46 rfl rfl rfl) rfl rfl rfl ?_
      | refine Jl.yd (Y.lenS Try.underlying57 rfl rfl rfl) rfl rfl rfl ?_
      | refine Jl.call1 (v := .agg #[.int .i64 y1, .int .i64 y2, .int .i64 y3, .int .i64 y4, .int .i64 y5, .bool y6, .int .i64 y7]) rfl rfl rfl rfl en49 rfl (fun w hW => by with_reducible exact spec_DrawRatioOf.calls k7 A0 c0 l0 y1 y2 y3 y4 y5 y6 y7 w (hW.fact (p := (fun W => (Kd.int .u8).C W A0 l0.length l0)) (by repeat (first | exact memH | refine memT ?_))) hc0 hD3) ?_
      | refine Jl.call1 (v := .tuple #[.int .i64 p3, .int .i64 q3, .bool t3]) rfl rfl rfl rfl en27 rfl (fun w hW => by with_reducible first | exact impl_RatioOf.calls k8 y1 y2 y3 y4 y5 y6 y7 p3 q3 t3 w h27 | exact Calls.mono (impl_RatioOf.calls k8 y1 y2 y3 y4 y5 y6 y7 p3 q3 t3 w h27) (fun _ _ hh => ⟨hh.1, hh.2.below⟩)) ?_
      | refine Jl.call1 (v := .tuple #[.int .i64 p3, .int .i64 q3, .bool t3]) rfl rfl rfl rfl en25 rfl (fun w hW => by with_reducible first | exact spec_RatioOf.calls k9 y1 y2 y3 y4 y5 y6 y7 p3 q3 t3 w h25 | exact Calls.mono (spec_RatioOf.calls k9 y1 y2 y3 y4 y5 y6 y7 p3 q3 t3 w h25) (fun _ _ hh => ⟨hh.1, hh.2.below⟩)) ?_
      | refine Jl.yd (eqBB rfl rfl rfl Try.underlying4) rfl rfl rfl ?_
      | refine Jl.splitG rfl rfl (fun h => ?_) (fun h => ?_))
    | (apply gateE; first
      | refine Jl.nil (Ej.go ?_ (fun _ _ h => h))
      | (refine Jl.nil (Ej.back (fun _ _ h => h) (by repeat (first | exact .refl | apply DropTo.tail)) ?_); repeat (first | exact trivial | refine ⟨rfl, ?_⟩)))
    | (apply gateC; first
      | refine Cj.block rfl ?_
      | refine Cj.ret rfl (Ej.out1 (P := Try.prog) (fn := Try.f13) (R := Rr) (fun _ _ h => h) rfl rfl (fun w' hW => ⟨rfl, hW.below⟩))
      | refine Cj.condF rfl rfl (Cj.skip rfl (Ej.go ?_ (fun _ _ h => h)))
      | (refine Cj.condF rfl rfl (Cj.skip rfl (Ej.back (fun _ _ h => h) (by repeat (first | exact .refl | apply DropTo.tail)) ?_)); repeat (first | exact trivial | refine ⟨rfl, ?_⟩))
      | refine Cj.condF rfl rfl ?_
      | refine Cj.condT rfl rfl ?_
      | refine Cj.exit rfl (Ej.go ?_ (fun _ _ h => h))
      | refine Cj.cond rfl rfl (fun h => ?_) (fun h => ?_)
      | refine Cj.skip rfl (Ej.go ?_ (fun _ _ h => h))
      | (refine Cj.skip rfl (Ej.back (fun _ _ h => h) (by repeat (first | exact .refl | apply DropTo.tail)) ?_); repeat (first | exact trivial | refine ⟨rfl, ?_⟩))
      | refine Cj.seq rfl ?_
      | refine Cj.region rfl ?_))
/-- An estimate lies between those by the least and the greatest ratio, and the means of the years have all sales: for every code that is drawn from. -/
theorem full (l0 : List Int) (A0 : Option Addr) (c0 : Nat) (w : World) (hr0 : Kd.C (Kd.int .u8) w A0 l0.length l0) (hc0 : l0.length ≤ c0) (q0 : (l0.length ≤ maxLen ∧ ∀ x ∈ l0, (Lit.int .u8 x).wf = true)) : Calls Try.prog 13 #[.slice A0 l0.length c0] w fun e w' => e = .returned (.bool true) ∧ Below w.heap.size w w' := by
  by_cases hbig : (l0.length : Int) > 65536
  · exact walkB l0 A0 c0 w hr0 hc0 (by unfold laws_rBig.f; rw [decide_eq_true hbig])
  have hb0 : laws_rBig.f l0 = some false := by unfold laws_rBig.f; rw [decide_eq_false hbig]
  have hl : CodeL l0 := code_of q0.2 (by omega)
  obtain ⟨l, a0, a1, a2, a3, a4, hE, hll⟩ := drawE hl
  obtain ⟨k1, e1⟩ := hE.rounds
  obtain ⟨ly, hY, hly⟩ := drawY hl
  obtain ⟨k2, e2⟩ := hY.rounds
  obtain ⟨q, ⟨p1, p2⟩, hS, hI, hq⟩ := yearAll ly (by omega)
  obtain ⟨k3, e3⟩ := hI.rounds
  obtain ⟨k4, e4⟩ := hS.rounds
  obtain ⟨k5, e5⟩ := (tableE q (by have := p1; dsimp only at this; omega) (fun i hi => by rw [p2 _ (nth_mem hi)]; omega)).rounds
  obtain ⟨k6, e6⟩ := (iGoodE ly (by omega)).rounds
  obtain ⟨y1, y2, y3, y4, y5, y6, y7, hR⟩ := drawR hl
  obtain ⟨k7, e7⟩ := hR.rounds
  obtain ⟨p3, q3, t3, g1, g2⟩ := ratBoth y1 y2 y3 y4 y5 y6 y7
  obtain ⟨k8, e8⟩ := g1.rounds
  obtain ⟨k9, e9⟩ := g2.rounds
  refine walk l0 A0 c0 w hr0 hc0 hb0 l ⟨a0, a1, a2, a3, a4⟩ k1 e1 _ _ (fun A c w h1 h2 => EI.calls (l.length + 1) A c l ⟨a0, a1, a2, a3, a4⟩ w h1 h2 (by omega) (by omega)) (fun A c w h1 h2 => ES.calls (l.length + 1) A c l ⟨a0, a1, a2, a3, a4⟩ w h1 h2 (by omega) (by omega)) (fun h => ?_)
    ly k2 k3 k4 k5 k6 k7 k8 k9 e2 q (goodS ly) e3 e4 e5 e6 (by omega) p1 (fun r hr => p2 r hr) (fun h i hi => ?_) y1 y2 y3 y4 y5 y6 y7 e7 p3 q3 t3 e8 e9
  · obtain ⟨h1, h2, _⟩ := est_some h
    exact ⟨h1, h2, (goodS_at h1).1, low_all h⟩
  · obtain ⟨r, hr, hy⟩ := hq h i hi
    exact hasY_all hr hy
end FSW
end Go.Proofs.Ytembbdhhpblapaa.WK

namespace Go.Proofs.Ytembbdhhpblapaa.Wk
open Go Go.RowKit Go.Proofs.Ytembbdhhpblapaa.Q Go.Proofs.Ytembbdhhpblapaa.WK Go.Proofs.YtembbdhhpblapaaW.PrintWords
theorem FnSales : laws_FnSales.Goal := fun l0 A0 c0 w hr0 hc0 q0 => FSW.full l0 A0 c0 w hr0 hc0 q0
end Go.Proofs.Ytembbdhhpblapaa.Wk

namespace Go.Proofs.Ytembbdhhpblapaa.fnSales
open Go.ChangeShapes Go.WideShapes Go.ChangeAt Go.RowKit Go.Proofs.Ytembbdhhpblapaa.Q Go.Proofs.YtembbdhhpblapaaW.Open Go.Proofs.YtembbdhhpblapaaW.PrintWords
set_option linter.unusedVariables false
theorem own : ownKnob Try.prog.godebug = none := by kernel_rfl
theorem laidOut : laidOutB Try.prog = true := by kernel_rfl
set_option maxRecDepth 100000 in
theorem lifted (os : Os) (started : os.Started) (H : Type) (enc : TypeId × Value → H) :
    ReturnsInHanded {} Try.checked os 13 .any (Rows.fnSalesSpec.pre6 enc Try.prog Try.f13 Rows.fnSalesRow.domain false) (Rows.fnSalesSpec.post enc Try.prog Try.f13 false true false false) := by
  refine returnsInHanded_of_change_sized (C := Try.checked) own started (by kernel_rfl) Try.func13
    (ChangeSpec.witness6 (enc := enc) (C := Try.checked) false ⟨#[], #[.slice none 0 0], []⟩ 8 (by kernel_rfl) (by kernel_rfl) (by kernel_rfl) (by kernel_rfl)) ?_
  intro W base args ds gs before hval0 hW hcnd hsz0 _
  have hval : ∀ (j : Nat) t v, Try.f13.params[j]? = some t → args[j]? = some v → Value.okWide Try.prog W .any base t v := hval0
  have hW' := hW
  obtain ⟨p, q, hA0, hV, rfl, hfz, hnd⟩ := hW
  have hA : DataW.TrodAll enc Try.prog W 0 (fun _ => true) true Try.f13.params.toList args.toList ds p := hA0
  rw [Try.params13] at hA hval
  obtain ⟨v0, vs0, d0, ds0, p0, q0, hargs, rfl, rfl, h0, r0⟩ := trodAll_cons hA
  obtain ⟨rfl, rfl, rfl⟩ := trodAll_nil r0
  obtain rfl : args = #[v0] := by cases args; simp_all
  obtain ⟨rfl, rfl⟩ := trodVars_none hV
  have k0 := h0
  have lt0 : ∀ x ∈ p0, x.block < W.heap.size := by obtain ⟨m, hm⟩ := k0; exact DataW.trod_lt m _ _ _ hm
  obtain ⟨a0, len0, cap0, rfl⟩ := okWide_slice Try.underlying50 (hval 0 50 v0 rfl rfl)
  obtain ⟨fu0, hf0⟩ := h0
  obtain ⟨x0, ⟨A0, c0, hk0, hc0, hr0⟩, q0⟩ := ((Opn.slice Try.underlying50 (n0 := 1) (by kernel_rfl) rfl (Opn.int Try.underlying5))).out hf0
  simp [Value.cells] at hk0
  obtain ⟨rfl, rfl, rfl⟩ := hk0
  refine (Go.Proofs.Ytembbdhhpblapaa.Wk.FnSales x0 _ _ W hr0 hc0 q0).mono fun e W' ⟨he, bel⟩ => ?_
  subst he
  exact ⟨_, rfl, _, _, _, [], _, [], hW', trodAll_mk1 (shut_bool Try.underlying4 _), (trodAll_cons_mk (Below.trod laidOut (by kernel_rfl) (of_decide_eq_true (by kernel_rfl)) k0 bel lt0) trodAll_mk0), rfl, bel.frame _, fun h => by cases h⟩
theorem over : Rows.fnSalesRow.holds Try.pinned (OpenSpec.ofChange Rows.fnSalesSpec) :=
  OpenClaim.holds_of_wide 13 Try.f13 rfl rfl rfl rfl rfl rfl rfl ⟨rfl, rfl, rfl, rfl, rfl⟩ rfl rfl rfl rfl rfl (by kernel_rfl) Try.func13 (by kernel_rfl)
    (of_decide_eq_true (by kernel_rfl)) (by unfold Func.isWrapper; first | (rw [if_pos (by decide +kernel)]; kernel_rfl) | (rw [if_neg (by decide +kernel)]; exact ⟨rfl, rfl⟩))
    (fun os started H enc _ => lifted os started H enc)
theorem proved : Rows.FnSalesSaid := over
end Go.Proofs.Ytembbdhhpblapaa.fnSales
namespace Go.Proofs.Ytembbdhhpblapaa
/-- The row, under a short name, for the claim. -/
theorem fnSales_holds : Rows.FnSalesSaid := fnSales.proved
end Go.Proofs.Ytembbdhhpblapaa

#print axioms Go.Proofs.Ytembbdhhpblapaa.fnSales_holds
