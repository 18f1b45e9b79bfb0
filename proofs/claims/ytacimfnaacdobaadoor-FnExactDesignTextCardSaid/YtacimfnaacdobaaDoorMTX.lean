import Derived.Test.YtacimfnaacdobaaDoorSLY
import Derived.Test.YtacimfnaacdobaaDoorSLW
import Derived.Test.YtacimfnaacdobaaDoorSLA
import Derived.Test.YtacimfnaacdobaaDoorSLC
import Derived.Test.YtacimfnaacdobaaDoorMTT
import Derived.Test.YtacimfnaacdobaaDoorMSh
import Derived.KernelRfl
import Derived.Lib.AppendIntMem
import Derived.Test.YtacimfnaacdobaaDoorQx12
import Derived.Test.YtacimfnaacdobaaDoorQx16
import Derived.Test.YtacimfnaacdobaaDoorQx22
import Derived.Test.YtacimfnaacdobaaDoorQx23
import Derived.Test.YtacimfnaacdobaaDoorQx28
import Derived.Test.YtacimfnaacdobaaDoorQx7
import Derived.Test.YtacimfnaacdobaaDoorQx8888801
namespace Go.Proofs.YtacimfnaacdobaaDoor.WK
open Go Go.RowKit Go.Proofs.YtacimfnaacdobaaDoor.Q Go.Proofs.YtacimfnaacdobaaDoor.M Go.Proofs.YtacimfnaacdobaaDoorW.PrintWords Go.Proofs.YtacimfnaacdobaaDoorW.Pl Go.Proofs.YtacimfnaacdobaaDoorW.SL
set_option linter.unusedSimpArgs false
set_option linter.unusedVariables false
set_option maxRecDepth 100000
namespace Txt
theorem agg37 : AggT Tryd.prog 37 4 := ⟨by kernel_rfl⟩
theorem sz37 : SzT Tryd.prog 37 4 := ⟨by kernel_rfl⟩
theorem sc3 : ScT Tryd.prog 3 := ⟨by kernel_rfl⟩
theorem sc9 : ScT Tryd.prog 9 := ⟨by kernel_rfl⟩
theorem fld37_0 : FldT Tryd.prog 37 0 0 := ⟨by kernel_rfl⟩
theorem fld37_1 : FldT Tryd.prog 37 1 1 := ⟨by kernel_rfl⟩
theorem fld37_2 : FldT Tryd.prog 37 2 2 := ⟨by kernel_rfl⟩
theorem fld37_3 : FldT Tryd.prog 37 3 3 := ⟨by kernel_rfl⟩
theorem zero37 : ZeroT Tryd.prog 37 [.int .i64 0, .int .i64 0, .int .i64 0, .int .i64 0] := ⟨by kernel_rfl⟩
theorem zero9 : ZeroT Tryd.prog 9 [.string ⟨#[]⟩] := ⟨by kernel_rfl⟩
theorem el22 : ElT Tryd.prog 22 37 4 := ⟨by kernel_rfl⟩
theorem el34 : ElT Tryd.prog 34 9 1 := ⟨by kernel_rfl⟩
theorem el47 : ElT Tryd.prog 47 3 1 := ⟨by kernel_rfl⟩
theorem en7 : Ent Tryd.prog 7 := ⟨enters_of Tryd.func7 (by kernel_rfl) rfl⟩
theorem en10 : Ent Tryd.prog 10 := ⟨enters_of Tryd.func10 (by kernel_rfl) rfl⟩
theorem en11 : Ent Tryd.prog 11 := ⟨enters_of Tryd.func11 (by kernel_rfl) rfl⟩
theorem en12 : Ent Tryd.prog 12 := ⟨enters_of Tryd.func12 (by kernel_rfl) rfl⟩
theorem en13 : Ent Tryd.prog 13 := ⟨enters_of Tryd.func13 (by kernel_rfl) rfl⟩
theorem en16 : Ent Tryd.prog 16 := ⟨enters_of Tryd.func16 (by kernel_rfl) rfl⟩
theorem en17 : Ent Tryd.prog 17 := ⟨enters_of Tryd.func17 (by kernel_rfl) rfl⟩
theorem en22 : Ent Tryd.prog 22 := ⟨enters_of Tryd.func22 (by kernel_rfl) rfl⟩
theorem en23 : Ent Tryd.prog 23 := ⟨enters_of Tryd.func23 (by kernel_rfl) rfl⟩
theorem en24 : Ent Tryd.prog 24 := ⟨enters_of Tryd.func24 (by kernel_rfl) rfl⟩
theorem en25 : Ent Tryd.prog 25 := ⟨enters_of Tryd.func25 (by kernel_rfl) rfl⟩
theorem en28 : Ent Tryd.prog 28 := ⟨enters_of Tryd.func28 (by kernel_rfl) rfl⟩
theorem en35 : Ent Tryd.prog 35 := ⟨enters_of Tryd.func35 (by kernel_rfl) rfl⟩
theorem ap34 : ApT Tryd.prog 34 9 1 16 := apT_of (z := .string ⟨#[]⟩) Tryd.underlying34 (by kernel_rfl) rfl (by decide)
theorem mixed : Tryd.prog.follows .mixedOrders = true := by kernel_rfl
abbrev tabName : String := "internal/strconv.uint64pow10"
theorem litL {P : Program} {N : Nat} {B : Base} {L : Sl} {its : List Go.Proofs.YtacimfnaacdobaaDoorW.SL.Item} {ps : List (World → Prop)} {Q : Exit → Act → World → Prop} {D : Dm} {k : Nat} {ops : Array Oper} {rest : List Oper} {o : Oper} {d T : Nat} {es : Array (Nat × Operand)} (n : Nat) (cs : Array Value) (e : Nat) (hop : o.op = .buildSlice T n es) (hw : wants ops L o = some true) (hd : o.dst = some d) (hN : Nat.blt d N = true) (hr : ∀ a w, (execOp (Act.eval a) o).run P w = .ok (.value (.slice (some ⟨w.heap.size, 0, none⟩) n n)) (w.alloc (.cells cs e)))
    (h : ∀ g, Jl P N B D (k + 1) ops Q rest ((d, .slice (some ⟨g, 0, none⟩) n n) :: L) (.box g e cs.toList :: its) ps) (hD : D.takes k = false := by rfl) : Jl P N B D k ops Q (o :: rest) L its ps := Jl.litK n cs e hw hd hN hr h hD
theorem eq1 (s : ByteArray) {x : S37} (h : x.f0 = 1) : ((((((s ++ letT x.f0) ++ dec x.f1) ++ ⟨#[46]⟩) ++ dec x.f2) ++ ⟨#[46]⟩) ++ dec x.f3) = s ++ wordT x := by
  unfold wordT; rw [numsJ1 h]; simp only [ByteArray.append_assoc]
theorem eq6 (s : ByteArray) {x : S37} (h : x.f0 = 6) : ((s ++ letT x.f0) ++ dec x.f1) = s ++ wordT x := by
  unfold wordT; rw [numsJ6 h]; simp only [ByteArray.append_assoc]
theorem eq9 (s : ByteArray) {x : S37} (h : x.f0 = 9) : ((((s ++ letT x.f0) ++ dec x.f1) ++ ⟨#[46]⟩) ++ dec x.f2) = s ++ wordT x := by
  unfold wordT; rw [numsJ9 h]; simp only [ByteArray.append_assoc]
theorem eq0 (s : ByteArray) {x : S37} (h1 : x.f0 ≠ 1) (h6 : x.f0 ≠ 6) (h9 : x.f0 ≠ 9) : (s ++ letT x.f0) = s ++ wordT x := by
  unfold wordT; rw [numsJ0 h1 h6 h9, show (⟨#[]⟩ : ByteArray) = ByteArray.empty from rfl, ByteArray.append_empty]
theorem bel_ {w w' : World} (h : Drawn0 w w') : Below w.heap.size w w' := h.below
theorem tab_below {w W : World} (h : Lib.TabIs Tryd.prog w tabName .u64 Lib.pow10Tab) (hb : Below w.heap.size w W) : Lib.TabIs Tryd.prog W tabName .u64 Lib.pow10Tab := Lib.tabBelow_of_tabIs h W hb
theorem below_grow (w : World) (k : Nat) (os : Array Obj) : Below w.heap.size w (Sort.grow (w.drewN k) os) := by
  refine ⟨rfl, rfl, rfl, by simp, fun k hk => ?_⟩
  rw [Sort.heap_grow_old _ _ (by simpa using hk)]
  rfl
theorem itoa_ (n : Int) (h0 : -9223372036854775808 ≤ n) (h1 : n ≤ 9223372036854775807) (w : World) (h : Lib.TabIs Tryd.prog w tabName .u64 Lib.pow10Tab) : Calls Tryd.prog 35 #[.int .i64 n] w fun e w' => e = .returned (.string (dec n)) ∧ Below w.heap.size w w' := by
  refine (Tryd.strconv_Itoa n h0 h1 w h).mono ?_
  rintro e w' ⟨rfl, k, os, rfl⟩
  exact ⟨rfl, below_grow w k os⟩
set_option maxHeartbeats 2000000 in
theorem dec_ (n : Int) (h0 : -9223372036854775808 ≤ n) (h1 : n ≤ 9223372036854775807) (w : World) (htab : Lib.TabIs Tryd.prog w tabName .u64 Lib.pow10Tab) : Calls Tryd.prog 24 #[.int .i64 n] w fun e w' => e = .returned (.string (dec n)) ∧ Below w.heap.size w w' := by
  let Rr : Ending → World → Prop := fun e w' => e = .returned (.string (dec n)) ∧ Below w.heap.size w w'
  refine enterW (args := [.int .i64 n]) [fun W => Lib.TabIs Tryd.prog W tabName .u64 Lib.pow10Tab] (fun p hp W hb => by rw [List.mem_singleton.1 hp]; exact tab_below htab hb) Tryd.func24 rfl rfl ?_
  show Cj Tryd.prog _ _ _ (bodyPost Tryd.prog Tryd.f24 Rr) _ _ _
  repeat (first
    | (apply gateO; first
      | refine Jl.yd (Y.mv rfl rfl) rfl rfl rfl ?_
      | refine Jl.yd (Y.asg rfl rfl) rfl rfl rfl ?_
      | refine Jl.yd (Y.ext rfl rfl rfl) rfl rfl rfl ?_
      | refine Jl.yd (Y.pickT rfl rfl rfl) rfl rfl rfl ?_
      | refine Jl.yd (Y.pickF rfl rfl rfl) rfl rfl rfl ?_
      | refine Jl.off rfl rfl rfl ?_
      | refine Jl.yd (Y.cmpF rfl rfl rfl rfl (by omega)) rfl rfl rfl ?_
      | refine Jl.yd (Y.cmpT rfl rfl rfl rfl (by omega)) rfl rfl rfl ?_
      | refine Jl.yd (Y.neqB rfl rfl rfl Tryd.underlying4) rfl rfl rfl ?_
      | refine Jl.yd (Y.cmp rfl rfl rfl rfl) rfl rfl rfl ?_
      | refine Jl.yd (Y.not rfl rfl) rfl rfl rfl ?_
      | refine Jl.yd (Y.arithN rfl rfl rfl rfl (by omega)) rfl rfl rfl ?_
      | refine Jl.yd (Y.arith64 rfl rfl rfl rfl) rfl rfl rfl ?_
      | refine Jl.call1 (v := .string (dec n)) rfl rfl rfl rfl en35 rfl (fun w hW => itoa_ n h0 h1 w (hW.at 0 rfl)) ?_
      | refine Jl.splitG rfl rfl (fun h => ?_) (fun h => ?_))
    | (apply gateE; first
      | refine Jl.nil (Ej.go ?_ (fun _ _ h => h))
      | (refine Jl.nil (Ej.back (fun _ _ h => h) (by repeat (first | exact .refl | apply DropTo.tail)) ?_); repeat (first | exact trivial | refine ⟨rfl, ?_⟩)))
    | (apply gateC; first
      | refine Cj.ret rfl (Ej.out1 (P := Tryd.prog) (fn := Tryd.f24) (R := Rr) (fun _ _ h => h) rfl rfl (fun w' hW => ?_))
      | refine Cj.condF rfl rfl (Cj.skip rfl (Ej.go ?_ (fun _ _ h => h)))
      | (refine Cj.condF rfl rfl (Cj.skip rfl (Ej.back (fun _ _ h => h) (by repeat (first | exact .refl | apply DropTo.tail)) ?_)); repeat (first | exact trivial | refine ⟨rfl, ?_⟩))
      | refine Cj.condF rfl rfl ?_
      | refine Cj.condT rfl rfl ?_
      | refine Cj.exit rfl (Ej.go ?_ (fun _ _ h => h))
      | refine Cj.cond rfl rfl (fun h => ?_) (fun h => ?_)
      | refine Cj.skip rfl (Ej.go ?_ (fun _ _ h => h))
      | (refine Cj.skip rfl (Ej.back (fun _ _ h => h) (by repeat (first | exact .refl | apply DropTo.tail)) ?_); repeat (first | exact trivial | refine ⟨rfl, ?_⟩))
      | refine Cj.seq rfl ?_
      | refine Cj.region rfl ?_))
  exact ⟨rfl, hW.below⟩
theorem num_ (n : Int) (h : 0 ≤ n ∧ n ≤ 4611686018427387903) (w : World) : Calls Tryd.prog 28 #[.int .i64 n] w fun e w' => e = .returned (.string (dec n)) ∧ Below w.heap.size w w' := by
  obtain ⟨u, rfl⟩ : ∃ u : Nat, n = (u : Int) := ⟨n.toNat, by omega⟩
  obtain ⟨k, hk⟩ := (num u (by omega)).rounds
  exact spec_l1Num.calls k _ _ w hk
set_option maxHeartbeats 4000000 in
theorem sText (A0 : Option Addr) (c0 : Nat) (xs : List S37) (hg : goodD xs = true) (w : World) (hr0 : Kd.C k37 w A0 xs.length xs) (hc0 : xs.length ≤ c0) : Calls Tryd.prog 17 #[.slice A0 xs.length c0] w fun e w' => e = .returned (.string (desT xs xs.length)) ∧ Below w.heap.size w w' := by
  let Rr : Ending → World → Prop := fun e w' => e = .returned (.string (desT xs xs.length)) ∧ Below w.heap.size w w'
  refine enterW (args := [.slice A0 xs.length c0]) [(fun w => Kd.C k37 w A0 xs.length xs)] (fun p hp W hb => by
    rcases List.mem_cons.1 hp with rfl | hp
    · exact Kd.C_below hr0 hb
    · cases hp) Tryd.func17 rfl rfl ?_
  show Cj Tryd.prog _ _ _ (bodyPost Tryd.prog Tryd.f17 Rr) _ _ _
  obtain ⟨hl20, hgo⟩ := goodD_at hg
  repeat (first
    | (apply gateO; first
      | refine Jl.yd (Y.mv rfl rfl) rfl rfl rfl ?_
      | refine Jl.yd (Y.asg rfl rfl) rfl rfl rfl ?_
      | refine Jl.yd (Y.ext rfl rfl rfl) rfl rfl rfl ?_
      | refine Jl.yd (Y.pickT rfl rfl rfl) rfl rfl rfl ?_
      | refine Jl.yd (Y.pickF rfl rfl rfl) rfl rfl rfl ?_
      | refine Jl.off rfl rfl rfl ?_
      | refine Jl.yd (Y.cmpF rfl rfl rfl rfl (by omega)) rfl rfl rfl ?_
      | refine Jl.yd (Y.cmpT rfl rfl rfl rfl (by omega)) rfl rfl rfl ?_
      | refine Jl.yd (Y.neqB rfl rfl rfl Tryd.underlying4) rfl rfl rfl ?_
      | refine Jl.yd (Y.cmp rfl rfl rfl rfl) rfl rfl rfl ?_
      | refine Jl.yd (Y.not rfl rfl) rfl rfl rfl ?_
      | refine Jl.yd (Y.arithN rfl rfl rfl rfl (by omega)) rfl rfl rfl ?_
      | refine Jl.yd (Y.arith64 rfl rfl rfl rfl) rfl rfl rfl ?_
      | refine Jl.splitG rfl rfl (fun h => ?_) (fun h => ?_))
    | (apply gateE; first
      | refine Jl.nil (Ej.go ?_ (fun _ _ h => h))
      | (refine Jl.nil (Ej.back (fun _ _ h => h) (by repeat (first | exact .refl | apply DropTo.tail)) ?_); repeat (first | exact trivial | refine ⟨rfl, ?_⟩)))
    | (apply gateC; first
      | refine Cj.block rfl ?_
      | refine Cj.condF rfl rfl (Cj.skip rfl (Ej.go ?_ (fun _ _ h => h)))
      | (refine Cj.condF rfl rfl (Cj.skip rfl (Ej.back (fun _ _ h => h) (by repeat (first | exact .refl | apply DropTo.tail)) ?_)); repeat (first | exact trivial | refine ⟨rfl, ?_⟩))
      | refine Cj.condF rfl rfl ?_
      | refine Cj.condT rfl rfl ?_
      | refine Cj.exit rfl (Ej.go ?_ (fun _ _ h => h))
      | refine Cj.cond rfl rfl (fun h => ?_) (fun h => ?_)
      | refine Cj.skip rfl (Ej.go ?_ (fun _ _ h => h))
      | (refine Cj.skip rfl (Ej.back (fun _ _ h => h) (by repeat (first | exact .refl | apply DropTo.tail)) ?_); repeat (first | exact trivial | refine ⟨rfl, ?_⟩))
      | refine Cj.seq rfl ?_
      | refine Cj.region rfl ?_))
  try refine Cj.block rfl ?_
  refine Cj.loopP (ι := Nat × ByteArray) (fun q => q.1 ≤ xs.length ∧ q.2 = desT xs q.1) (fun q => [(0, .slice A0 xs.length c0), (3, .string q.2), (4, .int .i64 (q.1 : Int))])
    (fun _ => []) (fun _ => [(fun w => Kd.C k37 w A0 xs.length xs)]) (fun q => xs.length - q.1) rfl (0, ⟨#[]⟩) ⟨Nat.zero_le _, rfl⟩ ⟨rfl, rfl, rfl, trivial⟩ (by repeat (first | exact .nil | refine Pick.cons (by repeat (first | exact .z | apply OutAt.s)) ?_)) (fun p hp => hp) (fun q hi => ?_)
  obtain ⟨i, s⟩ := q
  dsimp only at hi ⊢
  obtain ⟨hi, hs⟩ := hi
  by_cases hlt : i < xs.length
  · have hss := des_size hgo i hi
    rw [← hs] at hss
    obtain ⟨ad0, rfl⟩ : ∃ ad, A0 = some ad := by
      obtain ⟨ad, e, _⟩ := hr0.2.2 (by omega)
      exact ⟨ad, e⟩
    obtain ⟨x, hx⟩ : ∃ x, nth xs i z37 = x := ⟨_, rfl⟩
    have hus : ([.int .i64 (xs.getD ((i : Int)).toNat z37).f0, .int .i64 (xs.getD ((i : Int)).toNat z37).f1, .int .i64 (xs.getD ((i : Int)).toNat z37).f2, .int .i64 (xs.getD ((i : Int)).toNat z37).f3] : List Value) = [.int .i64 x.f0, .int .i64 x.f1, .int .i64 x.f2, .int .i64 x.f3] := by
      rw [Int.toNat_natCast]; unfold nth at hx; rw [hx]
    have hok := hgo i hlt
    rw [hx] at hok
    obtain ⟨hk, hk1, hk6, hk9⟩ := okR_at hok
    have eT : desT xs (i + 1) = (if i > 0 then s ++ ⟨#[32]⟩ else s) ++ wordT x := by rw [hs, ← hx]; rfl
    have hnm := let_at x.f0 hk
    have sl := let_size x.f0 hk
    by_cases hp : i > 0
    · skip
      by_cases h1 : x.f0 = 1
      · have hb1 := hk1 h1
        have sz_f1 := dec_size x.f1 (by omega) (by omega)
        have sz_f2 := dec_size x.f2 (by omega) (by omega)
        have sz_f3 := dec_size x.f3 (by omega) (by omega)
        repeat (first
    | (apply gateO; first
      | refine Jl.yd (Y.mv rfl rfl) rfl rfl rfl ?_
      | refine Jl.yd (Y.asg rfl rfl) rfl rfl rfl ?_
      | refine Jl.yd (Y.ext rfl rfl rfl) rfl rfl rfl ?_
      | refine Jl.yd (Y.pickT rfl rfl rfl) rfl rfl rfl ?_
      | refine Jl.yd (Y.pickF rfl rfl rfl) rfl rfl rfl ?_
      | refine Jl.off rfl rfl rfl ?_
      | refine Jl.yd (Y.cmpF rfl rfl rfl rfl (by omega)) rfl rfl rfl ?_
      | refine Jl.yd (Y.cmpT rfl rfl rfl rfl (by omega)) rfl rfl rfl ?_
      | refine Jl.yd (Y.neqB rfl rfl rfl Tryd.underlying4) rfl rfl rfl ?_
      | refine Jl.yd (Y.cmp rfl rfl rfl rfl) rfl rfl rfl ?_
      | refine Jl.yd (Y.not rfl rfl) rfl rfl rfl ?_
      | refine Jl.yd (Y.arithN rfl rfl rfl rfl (by omega)) rfl rfl rfl ?_
      | refine Jl.yd (Y.arith64 rfl rfl rfl rfl) rfl rfl rfl ?_
      | refine Jl.yd (Y.loadA rfl rfl agg37 (by repeat (first | exact .head _ | refine .tail _ ?_)) (by rfl)) rfl rfl rfl ?_
      | refine Jl.yd (Y.load1 rfl rfl sc3 (by repeat (first | exact .head _ | refine .tail _ ?_)) (by rfl)) rfl rfl rfl ?_
      | refine Jl.yd (Y.fld0 rfl rfl fld37_0) rfl rfl rfl ?_
      | refine Jl.yd (Y.fld0 rfl rfl fld37_1) rfl rfl rfl ?_
      | refine Jl.alloc rfl rfl rfl rfl zero37 (fun g => ?_)
      | refine Jl.storeA rfl rfl rfl rfl rfl sz37 (by repeat (first | exact .z | apply SetAt.s)) (by rfl) (by rfl) ?_
      | refine Jl.yd (Y.lenS Tryd.underlying22 rfl rfl rfl) rfl rfl rfl ?_
      | refine Jl.yd (Y.idx rfl rfl rfl el22 (by omega) (by omega)) rfl rfl rfl ?_
      | refine Jl.yd (Y.loadK z37 [.int .i64 x.f0, .int .i64 x.f1, .int .i64 x.f2, .int .i64 x.f3] rfl rfl agg37 (by repeat (first | exact .head _ | refine .tail _ ?_)) (i : Int) (by omega) (by omega) (by rfl) (fun w cs h => (k37_open h).trans hus) (by rfl)) rfl rfl rfl ?_
      | refine Jl.yd (Y.cat rfl rfl rfl (by (try simp only [ByteArray.size_append', dot_size, spc_size, emp_size]); omega)) rfl rfl rfl ?_
      | refine litL (T := 34) 10 #[.string ⟨#[]⟩, .string ⟨#[112]⟩, .string ⟨#[116]⟩, .string ⟨#[109]⟩, .string ⟨#[98]⟩, .string ⟨#[117]⟩, .string ⟨#[114]⟩, .string ⟨#[99]⟩, .string ⟨#[115]⟩, .string ⟨#[120]⟩] 9 rfl rfl rfl rfl (by intro a w; kernel_rfl) (fun gl => ?_)
      | refine Jl.yd (Y.idx0 rfl rfl rfl el34 (by omega) (by omega)) rfl rfl rfl ?_
      | refine Jl.yd (Y.load1 rfl rfl sc9 (by repeat (first | exact .head _ | refine .tail _ ?_)) hnm) rfl rfl rfl ?_
      | refine Jl.call1 (v := .string (dec x.f1)) rfl rfl rfl rfl en28 rfl (fun w hW => num_ x.f1 (by omega) w) ?_
      | refine Jl.splitG rfl rfl (fun h => ?_) (fun h => ?_))
    | (apply gateE; first
      | refine Jl.nil (Ej.go ?_ (fun _ _ h => h))
      | (refine Jl.nil (Ej.back (fun _ _ h => h) (by repeat (first | exact .refl | apply DropTo.tail)) ?_); repeat (first | exact trivial | refine ⟨rfl, ?_⟩)))
    | (apply gateC; first
      | refine Cj.block rfl ?_
      | refine Cj.condF rfl rfl (Cj.skip rfl (Ej.go ?_ (fun _ _ h => h)))
      | (refine Cj.condF rfl rfl (Cj.skip rfl (Ej.back (fun _ _ h => h) (by repeat (first | exact .refl | apply DropTo.tail)) ?_)); repeat (first | exact trivial | refine ⟨rfl, ?_⟩))
      | refine Cj.condF rfl rfl ?_
      | refine Cj.condT rfl rfl ?_
      | refine Cj.exit rfl (Ej.go ?_ (fun _ _ h => h))
      | refine Cj.cond rfl rfl (fun h => ?_) (fun h => ?_)
      | refine Cj.skip rfl (Ej.go ?_ (fun _ _ h => h))
      | (refine Cj.skip rfl (Ej.back (fun _ _ h => h) (by repeat (first | exact .refl | apply DropTo.tail)) ?_); repeat (first | exact trivial | refine ⟨rfl, ?_⟩))
      | refine Cj.seq rfl ?_
      | refine Cj.region rfl ?_))
        refine Cj.regionJ rfl [] mixed ?_
        refine Jw.take 0 rfl (by decide +kernel) (by intro c a d v w h; cases d <;> exact h) (fun w => Y.mv rfl rfl) rfl rfl rfl ?_
        refine Jw.take 1 rfl (by decide +kernel) (by intro c a d v w h; cases d <;> exact h) (fun w => Y.fld0 rfl rfl fld37_1) rfl rfl rfl ?_
        refine Jw.take 6 rfl (by decide +kernel) (by intro c a d v w h; cases d <;> exact h) (fun w => Y.fld0 rfl rfl fld37_2) rfl rfl rfl ?_
        refine Jw.take 11 rfl (by decide +kernel) (by intro c a d v w h; cases d <;> exact h) (fun w => Y.fld0 rfl rfl fld37_3) rfl rfl rfl ?_
        refine Jw.takeR 2 rfl (by decide +kernel) (by intro c a d v w h; cases d <;> exact h) (Y.load1 rfl rfl sc3 (by repeat (first | exact .head _ | refine .tail _ ?_)) (by rfl)) rfl rfl rfl ?_
        refine Jw.takeR 7 rfl (by decide +kernel) (by intro c a d v w h; cases d <;> exact h) (Y.load1 rfl rfl sc3 (by repeat (first | exact .head _ | refine .tail _ ?_)) (by rfl)) rfl rfl rfl ?_
        refine Jw.takeR 12 rfl (by decide +kernel) (by intro c a d v w h; cases d <;> exact h) (Y.load1 rfl rfl sc3 (by repeat (first | exact .head _ | refine .tail _ ?_)) (by rfl)) rfl rfl rfl ?_
        refine Jw.step (mkD [] []) 3 rfl (by decide +kernel) rfl rfl ?_
        refine Jl.call1 (v := .string (dec x.f1)) rfl rfl rfl rfl en28 rfl (fun w hW => num_ x.f1 (by omega) w) ?_
        refine Jl.jw ?_
        refine Jw.take 4 rfl (by decide +kernel) (by intro c a d v w h; cases d <;> exact h) (fun w => Y.cat rfl rfl rfl (by (try simp only [ByteArray.size_append', dot_size, spc_size, emp_size]); omega)) rfl rfl rfl ?_
        refine Jw.take 5 rfl (by decide +kernel) (by intro c a d v w h; cases d <;> exact h) (fun w => Y.cat rfl rfl rfl (by (try simp only [ByteArray.size_append', dot_size, spc_size, emp_size]); omega)) rfl rfl rfl ?_
        refine Jw.step (mkD [] []) 8 rfl (by decide +kernel) rfl rfl ?_
        refine Jl.call1 (v := .string (dec x.f2)) rfl rfl rfl rfl en28 rfl (fun w hW => num_ x.f2 (by omega) w) ?_
        refine Jl.jw ?_
        refine Jw.take 9 rfl (by decide +kernel) (by intro c a d v w h; cases d <;> exact h) (fun w => Y.cat rfl rfl rfl (by (try simp only [ByteArray.size_append', dot_size, spc_size, emp_size]); omega)) rfl rfl rfl ?_
        refine Jw.take 10 rfl (by decide +kernel) (by intro c a d v w h; cases d <;> exact h) (fun w => Y.cat rfl rfl rfl (by (try simp only [ByteArray.size_append', dot_size, spc_size, emp_size]); omega)) rfl rfl rfl ?_
        refine Jw.step (mkD [] []) 13 rfl (by decide +kernel) rfl rfl ?_
        refine Jl.call1 (v := .string (dec x.f3)) rfl rfl rfl rfl en28 rfl (fun w hW => num_ x.f3 (by omega) w) ?_
        refine Jl.jw ?_
        refine Jw.take 14 rfl (by decide +kernel) (by intro c a d v w h; cases d <;> exact h) (fun w => Y.cat rfl rfl rfl (by (try simp only [ByteArray.size_append', dot_size, spc_size, emp_size]); omega)) rfl rfl rfl ?_
        refine Jw.take 15 rfl (by decide +kernel) (by intro c a d v w h; cases d <;> exact h) (fun w => Y.asg rfl rfl) rfl rfl rfl ?_
        refine Jw.done (by decide +kernel) (Ej.go ?_ (fun _ _ h => h))
        repeat (first
    | (apply gateO; first
      | refine Jl.yd (Y.mv rfl rfl) rfl rfl rfl ?_
      | refine Jl.yd (Y.asg rfl rfl) rfl rfl rfl ?_
      | refine Jl.yd (Y.ext rfl rfl rfl) rfl rfl rfl ?_
      | refine Jl.yd (Y.pickT rfl rfl rfl) rfl rfl rfl ?_
      | refine Jl.yd (Y.pickF rfl rfl rfl) rfl rfl rfl ?_
      | refine Jl.off rfl rfl rfl ?_
      | refine Jl.yd (Y.cmpF rfl rfl rfl rfl (by omega)) rfl rfl rfl ?_
      | refine Jl.yd (Y.cmpT rfl rfl rfl rfl (by omega)) rfl rfl rfl ?_
      | refine Jl.yd (Y.neqB rfl rfl rfl Tryd.underlying4) rfl rfl rfl ?_
      | refine Jl.yd (Y.cmp rfl rfl rfl rfl) rfl rfl rfl ?_
      | refine Jl.yd (Y.not rfl rfl) rfl rfl rfl ?_
      | refine Jl.yd (Y.arithN rfl rfl rfl rfl (by omega)) rfl rfl rfl ?_
      | refine Jl.yd (Y.arith64 rfl rfl rfl rfl) rfl rfl rfl ?_
      | refine Jl.splitG rfl rfl (fun h => ?_) (fun h => ?_))
    | (apply gateE; first
      | refine Jl.nil (Ej.go ?_ (fun _ _ h => h))
      | (refine Jl.nil (Ej.back (fun _ _ h => h) (by repeat (first | exact .refl | apply DropTo.tail)) ?_); repeat (first | exact trivial | refine ⟨rfl, ?_⟩)))
    | (apply gateC; first
      | refine Cj.block rfl ?_
      | refine Cj.condF rfl rfl (Cj.skip rfl (Ej.go ?_ (fun _ _ h => h)))
      | (refine Cj.condF rfl rfl (Cj.skip rfl (Ej.back (fun _ _ h => h) (by repeat (first | exact .refl | apply DropTo.tail)) ?_)); repeat (first | exact trivial | refine ⟨rfl, ?_⟩))
      | refine Cj.condF rfl rfl ?_
      | refine Cj.condT rfl rfl ?_
      | refine Cj.exit rfl (Ej.go ?_ (fun _ _ h => h))
      | refine Cj.cond rfl rfl (fun h => ?_) (fun h => ?_)
      | refine Cj.skip rfl (Ej.go ?_ (fun _ _ h => h))
      | (refine Cj.skip rfl (Ej.back (fun _ _ h => h) (by repeat (first | exact .refl | apply DropTo.tail)) ?_); repeat (first | exact trivial | refine ⟨rfl, ?_⟩))
      | refine Cj.seq rfl ?_
      | refine Cj.region rfl ?_))
        have eN : (((((((s ++ ⟨#[32]⟩) ++ letT x.f0) ++ dec x.f1) ++ ⟨#[46]⟩) ++ dec x.f2) ++ ⟨#[46]⟩) ++ dec x.f3) = desT xs (i + 1) := by rw [eT, if_pos hp]; exact eq1 _ h1
        clear sl hss sz_f1 sz_f2 sz_f3
        generalize (((((((s ++ ⟨#[32]⟩) ++ letT x.f0) ++ dec x.f1) ++ ⟨#[46]⟩) ++ dec x.f2) ++ ⟨#[46]⟩) ++ dec x.f3) = nw at eN ⊢
        refine Jl.nil (Ej.cutP (ι := Nat × ByteArray) _ _ _ _ (fun _ _ h => h) (i + 1, nw) ⟨⟨by dsimp only; omega, eN⟩, by dsimp only; omega⟩ ⟨rfl, rfl, rfl, trivial⟩ (by repeat (first | exact .nil | refine Pick.cons (by repeat (first | exact .z | apply OutAt.s)) ?_)) (fun p hp => hp))
      by_cases h6 : x.f0 = 6
      · have hb6 := hk6 h6
        have sz_f1 := dec_size x.f1 (by omega) (by omega)
        repeat (first
    | (apply gateO; first
      | refine Jl.yd (Y.mv rfl rfl) rfl rfl rfl ?_
      | refine Jl.yd (Y.asg rfl rfl) rfl rfl rfl ?_
      | refine Jl.yd (Y.ext rfl rfl rfl) rfl rfl rfl ?_
      | refine Jl.yd (Y.pickT rfl rfl rfl) rfl rfl rfl ?_
      | refine Jl.yd (Y.pickF rfl rfl rfl) rfl rfl rfl ?_
      | refine Jl.off rfl rfl rfl ?_
      | refine Jl.yd (Y.cmpF rfl rfl rfl rfl (by omega)) rfl rfl rfl ?_
      | refine Jl.yd (Y.cmpT rfl rfl rfl rfl (by omega)) rfl rfl rfl ?_
      | refine Jl.yd (Y.neqB rfl rfl rfl Tryd.underlying4) rfl rfl rfl ?_
      | refine Jl.yd (Y.cmp rfl rfl rfl rfl) rfl rfl rfl ?_
      | refine Jl.yd (Y.not rfl rfl) rfl rfl rfl ?_
      | refine Jl.yd (Y.arithN rfl rfl rfl rfl (by omega)) rfl rfl rfl ?_
      | refine Jl.yd (Y.arith64 rfl rfl rfl rfl) rfl rfl rfl ?_
      | refine Jl.yd (Y.loadA rfl rfl agg37 (by repeat (first | exact .head _ | refine .tail _ ?_)) (by rfl)) rfl rfl rfl ?_
      | refine Jl.yd (Y.load1 rfl rfl sc3 (by repeat (first | exact .head _ | refine .tail _ ?_)) (by rfl)) rfl rfl rfl ?_
      | refine Jl.yd (Y.fld0 rfl rfl fld37_0) rfl rfl rfl ?_
      | refine Jl.yd (Y.fld0 rfl rfl fld37_1) rfl rfl rfl ?_
      | refine Jl.alloc rfl rfl rfl rfl zero37 (fun g => ?_)
      | refine Jl.storeA rfl rfl rfl rfl rfl sz37 (by repeat (first | exact .z | apply SetAt.s)) (by rfl) (by rfl) ?_
      | refine Jl.yd (Y.lenS Tryd.underlying22 rfl rfl rfl) rfl rfl rfl ?_
      | refine Jl.yd (Y.idx rfl rfl rfl el22 (by omega) (by omega)) rfl rfl rfl ?_
      | refine Jl.yd (Y.loadK z37 [.int .i64 x.f0, .int .i64 x.f1, .int .i64 x.f2, .int .i64 x.f3] rfl rfl agg37 (by repeat (first | exact .head _ | refine .tail _ ?_)) (i : Int) (by omega) (by omega) (by rfl) (fun w cs h => (k37_open h).trans hus) (by rfl)) rfl rfl rfl ?_
      | refine Jl.yd (Y.cat rfl rfl rfl (by (try simp only [ByteArray.size_append', dot_size, spc_size, emp_size]); omega)) rfl rfl rfl ?_
      | refine litL (T := 34) 10 #[.string ⟨#[]⟩, .string ⟨#[112]⟩, .string ⟨#[116]⟩, .string ⟨#[109]⟩, .string ⟨#[98]⟩, .string ⟨#[117]⟩, .string ⟨#[114]⟩, .string ⟨#[99]⟩, .string ⟨#[115]⟩, .string ⟨#[120]⟩] 9 rfl rfl rfl rfl (by intro a w; kernel_rfl) (fun gl => ?_)
      | refine Jl.yd (Y.idx0 rfl rfl rfl el34 (by omega) (by omega)) rfl rfl rfl ?_
      | refine Jl.yd (Y.load1 rfl rfl sc9 (by repeat (first | exact .head _ | refine .tail _ ?_)) hnm) rfl rfl rfl ?_
      | refine Jl.call1 (v := .string (dec x.f1)) rfl rfl rfl rfl en28 rfl (fun w hW => num_ x.f1 (by omega) w) ?_
      | refine Jl.splitG rfl rfl (fun h => ?_) (fun h => ?_))
    | (apply gateE; first
      | refine Jl.nil (Ej.go ?_ (fun _ _ h => h))
      | (refine Jl.nil (Ej.back (fun _ _ h => h) (by repeat (first | exact .refl | apply DropTo.tail)) ?_); repeat (first | exact trivial | refine ⟨rfl, ?_⟩)))
    | (apply gateC; first
      | refine Cj.block rfl ?_
      | refine Cj.condF rfl rfl (Cj.skip rfl (Ej.go ?_ (fun _ _ h => h)))
      | (refine Cj.condF rfl rfl (Cj.skip rfl (Ej.back (fun _ _ h => h) (by repeat (first | exact .refl | apply DropTo.tail)) ?_)); repeat (first | exact trivial | refine ⟨rfl, ?_⟩))
      | refine Cj.condF rfl rfl ?_
      | refine Cj.condT rfl rfl ?_
      | refine Cj.exit rfl (Ej.go ?_ (fun _ _ h => h))
      | refine Cj.cond rfl rfl (fun h => ?_) (fun h => ?_)
      | refine Cj.skip rfl (Ej.go ?_ (fun _ _ h => h))
      | (refine Cj.skip rfl (Ej.back (fun _ _ h => h) (by repeat (first | exact .refl | apply DropTo.tail)) ?_); repeat (first | exact trivial | refine ⟨rfl, ?_⟩))
      | refine Cj.seq rfl ?_
      | refine Cj.region rfl ?_))
        have eN : (((s ++ ⟨#[32]⟩) ++ letT x.f0) ++ dec x.f1) = desT xs (i + 1) := by rw [eT, if_pos hp]; exact eq6 _ h6
        clear sl hss sz_f1
        generalize (((s ++ ⟨#[32]⟩) ++ letT x.f0) ++ dec x.f1) = nw at eN ⊢
        refine Jl.nil (Ej.cutP (ι := Nat × ByteArray) _ _ _ _ (fun _ _ h => h) (i + 1, nw) ⟨⟨by dsimp only; omega, eN⟩, by dsimp only; omega⟩ ⟨rfl, rfl, rfl, trivial⟩ (by repeat (first | exact .nil | refine Pick.cons (by repeat (first | exact .z | apply OutAt.s)) ?_)) (fun p hp => hp))
      by_cases h9 : x.f0 = 9
      · have hb9 := hk9 h9
        have sz_f1 := dec_size x.f1 (by omega) (by omega)
        have sz_f2 := dec_size x.f2 (by omega) (by omega)
        repeat (first
    | (apply gateO; first
      | refine Jl.yd (Y.mv rfl rfl) rfl rfl rfl ?_
      | refine Jl.yd (Y.asg rfl rfl) rfl rfl rfl ?_
      | refine Jl.yd (Y.ext rfl rfl rfl) rfl rfl rfl ?_
      | refine Jl.yd (Y.pickT rfl rfl rfl) rfl rfl rfl ?_
      | refine Jl.yd (Y.pickF rfl rfl rfl) rfl rfl rfl ?_
      | refine Jl.off rfl rfl rfl ?_
      | refine Jl.yd (Y.cmpF rfl rfl rfl rfl (by omega)) rfl rfl rfl ?_
      | refine Jl.yd (Y.cmpT rfl rfl rfl rfl (by omega)) rfl rfl rfl ?_
      | refine Jl.yd (Y.neqB rfl rfl rfl Tryd.underlying4) rfl rfl rfl ?_
      | refine Jl.yd (Y.cmp rfl rfl rfl rfl) rfl rfl rfl ?_
      | refine Jl.yd (Y.not rfl rfl) rfl rfl rfl ?_
      | refine Jl.yd (Y.arithN rfl rfl rfl rfl (by omega)) rfl rfl rfl ?_
      | refine Jl.yd (Y.arith64 rfl rfl rfl rfl) rfl rfl rfl ?_
      | refine Jl.yd (Y.loadA rfl rfl agg37 (by repeat (first | exact .head _ | refine .tail _ ?_)) (by rfl)) rfl rfl rfl ?_
      | refine Jl.yd (Y.load1 rfl rfl sc3 (by repeat (first | exact .head _ | refine .tail _ ?_)) (by rfl)) rfl rfl rfl ?_
      | refine Jl.yd (Y.fld0 rfl rfl fld37_0) rfl rfl rfl ?_
      | refine Jl.yd (Y.fld0 rfl rfl fld37_1) rfl rfl rfl ?_
      | refine Jl.alloc rfl rfl rfl rfl zero37 (fun g => ?_)
      | refine Jl.storeA rfl rfl rfl rfl rfl sz37 (by repeat (first | exact .z | apply SetAt.s)) (by rfl) (by rfl) ?_
      | refine Jl.yd (Y.lenS Tryd.underlying22 rfl rfl rfl) rfl rfl rfl ?_
      | refine Jl.yd (Y.idx rfl rfl rfl el22 (by omega) (by omega)) rfl rfl rfl ?_
      | refine Jl.yd (Y.loadK z37 [.int .i64 x.f0, .int .i64 x.f1, .int .i64 x.f2, .int .i64 x.f3] rfl rfl agg37 (by repeat (first | exact .head _ | refine .tail _ ?_)) (i : Int) (by omega) (by omega) (by rfl) (fun w cs h => (k37_open h).trans hus) (by rfl)) rfl rfl rfl ?_
      | refine Jl.yd (Y.cat rfl rfl rfl (by (try simp only [ByteArray.size_append', dot_size, spc_size, emp_size]); omega)) rfl rfl rfl ?_
      | refine litL (T := 34) 10 #[.string ⟨#[]⟩, .string ⟨#[112]⟩, .string ⟨#[116]⟩, .string ⟨#[109]⟩, .string ⟨#[98]⟩, .string ⟨#[117]⟩, .string ⟨#[114]⟩, .string ⟨#[99]⟩, .string ⟨#[115]⟩, .string ⟨#[120]⟩] 9 rfl rfl rfl rfl (by intro a w; kernel_rfl) (fun gl => ?_)
      | refine Jl.yd (Y.idx0 rfl rfl rfl el34 (by omega) (by omega)) rfl rfl rfl ?_
      | refine Jl.yd (Y.load1 rfl rfl sc9 (by repeat (first | exact .head _ | refine .tail _ ?_)) hnm) rfl rfl rfl ?_
      | refine Jl.call1 (v := .string (dec x.f1)) rfl rfl rfl rfl en28 rfl (fun w hW => num_ x.f1 (by omega) w) ?_
      | refine Jl.splitG rfl rfl (fun h => ?_) (fun h => ?_))
    | (apply gateE; first
      | refine Jl.nil (Ej.go ?_ (fun _ _ h => h))
      | (refine Jl.nil (Ej.back (fun _ _ h => h) (by repeat (first | exact .refl | apply DropTo.tail)) ?_); repeat (first | exact trivial | refine ⟨rfl, ?_⟩)))
    | (apply gateC; first
      | refine Cj.block rfl ?_
      | refine Cj.condF rfl rfl (Cj.skip rfl (Ej.go ?_ (fun _ _ h => h)))
      | (refine Cj.condF rfl rfl (Cj.skip rfl (Ej.back (fun _ _ h => h) (by repeat (first | exact .refl | apply DropTo.tail)) ?_)); repeat (first | exact trivial | refine ⟨rfl, ?_⟩))
      | refine Cj.condF rfl rfl ?_
      | refine Cj.condT rfl rfl ?_
      | refine Cj.exit rfl (Ej.go ?_ (fun _ _ h => h))
      | refine Cj.cond rfl rfl (fun h => ?_) (fun h => ?_)
      | refine Cj.skip rfl (Ej.go ?_ (fun _ _ h => h))
      | (refine Cj.skip rfl (Ej.back (fun _ _ h => h) (by repeat (first | exact .refl | apply DropTo.tail)) ?_); repeat (first | exact trivial | refine ⟨rfl, ?_⟩))
      | refine Cj.seq rfl ?_
      | refine Cj.region rfl ?_))
        refine Cj.regionJ rfl [] mixed ?_
        refine Jw.take 0 rfl (by decide +kernel) (by intro c a d v w h; cases d <;> exact h) (fun w => Y.mv rfl rfl) rfl rfl rfl ?_
        refine Jw.take 1 rfl (by decide +kernel) (by intro c a d v w h; cases d <;> exact h) (fun w => Y.fld0 rfl rfl fld37_1) rfl rfl rfl ?_
        refine Jw.take 6 rfl (by decide +kernel) (by intro c a d v w h; cases d <;> exact h) (fun w => Y.fld0 rfl rfl fld37_2) rfl rfl rfl ?_
        refine Jw.takeR 2 rfl (by decide +kernel) (by intro c a d v w h; cases d <;> exact h) (Y.load1 rfl rfl sc3 (by repeat (first | exact .head _ | refine .tail _ ?_)) (by rfl)) rfl rfl rfl ?_
        refine Jw.takeR 7 rfl (by decide +kernel) (by intro c a d v w h; cases d <;> exact h) (Y.load1 rfl rfl sc3 (by repeat (first | exact .head _ | refine .tail _ ?_)) (by rfl)) rfl rfl rfl ?_
        refine Jw.step (mkD [] []) 3 rfl (by decide +kernel) rfl rfl ?_
        refine Jl.call1 (v := .string (dec x.f1)) rfl rfl rfl rfl en28 rfl (fun w hW => num_ x.f1 (by omega) w) ?_
        refine Jl.jw ?_
        refine Jw.take 4 rfl (by decide +kernel) (by intro c a d v w h; cases d <;> exact h) (fun w => Y.cat rfl rfl rfl (by (try simp only [ByteArray.size_append', dot_size, spc_size, emp_size]); omega)) rfl rfl rfl ?_
        refine Jw.take 5 rfl (by decide +kernel) (by intro c a d v w h; cases d <;> exact h) (fun w => Y.cat rfl rfl rfl (by (try simp only [ByteArray.size_append', dot_size, spc_size, emp_size]); omega)) rfl rfl rfl ?_
        refine Jw.step (mkD [] []) 8 rfl (by decide +kernel) rfl rfl ?_
        refine Jl.call1 (v := .string (dec x.f2)) rfl rfl rfl rfl en28 rfl (fun w hW => num_ x.f2 (by omega) w) ?_
        refine Jl.jw ?_
        refine Jw.take 9 rfl (by decide +kernel) (by intro c a d v w h; cases d <;> exact h) (fun w => Y.cat rfl rfl rfl (by (try simp only [ByteArray.size_append', dot_size, spc_size, emp_size]); omega)) rfl rfl rfl ?_
        refine Jw.take 10 rfl (by decide +kernel) (by intro c a d v w h; cases d <;> exact h) (fun w => Y.asg rfl rfl) rfl rfl rfl ?_
        refine Jw.done (by decide +kernel) (Ej.go ?_ (fun _ _ h => h))
        repeat (first
    | (apply gateO; first
      | refine Jl.yd (Y.mv rfl rfl) rfl rfl rfl ?_
      | refine Jl.yd (Y.asg rfl rfl) rfl rfl rfl ?_
      | refine Jl.yd (Y.ext rfl rfl rfl) rfl rfl rfl ?_
      | refine Jl.yd (Y.pickT rfl rfl rfl) rfl rfl rfl ?_
      | refine Jl.yd (Y.pickF rfl rfl rfl) rfl rfl rfl ?_
      | refine Jl.off rfl rfl rfl ?_
      | refine Jl.yd (Y.cmpF rfl rfl rfl rfl (by omega)) rfl rfl rfl ?_
      | refine Jl.yd (Y.cmpT rfl rfl rfl rfl (by omega)) rfl rfl rfl ?_
      | refine Jl.yd (Y.neqB rfl rfl rfl Tryd.underlying4) rfl rfl rfl ?_
      | refine Jl.yd (Y.cmp rfl rfl rfl rfl) rfl rfl rfl ?_
      | refine Jl.yd (Y.not rfl rfl) rfl rfl rfl ?_
      | refine Jl.yd (Y.arithN rfl rfl rfl rfl (by omega)) rfl rfl rfl ?_
      | refine Jl.yd (Y.arith64 rfl rfl rfl rfl) rfl rfl rfl ?_
      | refine Jl.splitG rfl rfl (fun h => ?_) (fun h => ?_))
    | (apply gateE; first
      | refine Jl.nil (Ej.go ?_ (fun _ _ h => h))
      | (refine Jl.nil (Ej.back (fun _ _ h => h) (by repeat (first | exact .refl | apply DropTo.tail)) ?_); repeat (first | exact trivial | refine ⟨rfl, ?_⟩)))
    | (apply gateC; first
      | refine Cj.block rfl ?_
      | refine Cj.condF rfl rfl (Cj.skip rfl (Ej.go ?_ (fun _ _ h => h)))
      | (refine Cj.condF rfl rfl (Cj.skip rfl (Ej.back (fun _ _ h => h) (by repeat (first | exact .refl | apply DropTo.tail)) ?_)); repeat (first | exact trivial | refine ⟨rfl, ?_⟩))
      | refine Cj.condF rfl rfl ?_
      | refine Cj.condT rfl rfl ?_
      | refine Cj.exit rfl (Ej.go ?_ (fun _ _ h => h))
      | refine Cj.cond rfl rfl (fun h => ?_) (fun h => ?_)
      | refine Cj.skip rfl (Ej.go ?_ (fun _ _ h => h))
      | (refine Cj.skip rfl (Ej.back (fun _ _ h => h) (by repeat (first | exact .refl | apply DropTo.tail)) ?_); repeat (first | exact trivial | refine ⟨rfl, ?_⟩))
      | refine Cj.seq rfl ?_
      | refine Cj.region rfl ?_))
        have eN : (((((s ++ ⟨#[32]⟩) ++ letT x.f0) ++ dec x.f1) ++ ⟨#[46]⟩) ++ dec x.f2) = desT xs (i + 1) := by rw [eT, if_pos hp]; exact eq9 _ h9
        clear sl hss sz_f1 sz_f2
        generalize (((((s ++ ⟨#[32]⟩) ++ letT x.f0) ++ dec x.f1) ++ ⟨#[46]⟩) ++ dec x.f2) = nw at eN ⊢
        refine Jl.nil (Ej.cutP (ι := Nat × ByteArray) _ _ _ _ (fun _ _ h => h) (i + 1, nw) ⟨⟨by dsimp only; omega, eN⟩, by dsimp only; omega⟩ ⟨rfl, rfl, rfl, trivial⟩ (by repeat (first | exact .nil | refine Pick.cons (by repeat (first | exact .z | apply OutAt.s)) ?_)) (fun p hp => hp))
      repeat (first
    | (apply gateO; first
      | refine Jl.yd (Y.mv rfl rfl) rfl rfl rfl ?_
      | refine Jl.yd (Y.asg rfl rfl) rfl rfl rfl ?_
      | refine Jl.yd (Y.ext rfl rfl rfl) rfl rfl rfl ?_
      | refine Jl.yd (Y.pickT rfl rfl rfl) rfl rfl rfl ?_
      | refine Jl.yd (Y.pickF rfl rfl rfl) rfl rfl rfl ?_
      | refine Jl.off rfl rfl rfl ?_
      | refine Jl.yd (Y.cmpF rfl rfl rfl rfl (by omega)) rfl rfl rfl ?_
      | refine Jl.yd (Y.cmpT rfl rfl rfl rfl (by omega)) rfl rfl rfl ?_
      | refine Jl.yd (Y.neqB rfl rfl rfl Tryd.underlying4) rfl rfl rfl ?_
      | refine Jl.yd (Y.cmp rfl rfl rfl rfl) rfl rfl rfl ?_
      | refine Jl.yd (Y.not rfl rfl) rfl rfl rfl ?_
      | refine Jl.yd (Y.arithN rfl rfl rfl rfl (by omega)) rfl rfl rfl ?_
      | refine Jl.yd (Y.arith64 rfl rfl rfl rfl) rfl rfl rfl ?_
      | refine Jl.yd (Y.loadA rfl rfl agg37 (by repeat (first | exact .head _ | refine .tail _ ?_)) (by rfl)) rfl rfl rfl ?_
      | refine Jl.yd (Y.load1 rfl rfl sc3 (by repeat (first | exact .head _ | refine .tail _ ?_)) (by rfl)) rfl rfl rfl ?_
      | refine Jl.yd (Y.fld0 rfl rfl fld37_0) rfl rfl rfl ?_
      | refine Jl.yd (Y.fld0 rfl rfl fld37_1) rfl rfl rfl ?_
      | refine Jl.alloc rfl rfl rfl rfl zero37 (fun g => ?_)
      | refine Jl.storeA rfl rfl rfl rfl rfl sz37 (by repeat (first | exact .z | apply SetAt.s)) (by rfl) (by rfl) ?_
      | refine Jl.yd (Y.lenS Tryd.underlying22 rfl rfl rfl) rfl rfl rfl ?_
      | refine Jl.yd (Y.idx rfl rfl rfl el22 (by omega) (by omega)) rfl rfl rfl ?_
      | refine Jl.yd (Y.loadK z37 [.int .i64 x.f0, .int .i64 x.f1, .int .i64 x.f2, .int .i64 x.f3] rfl rfl agg37 (by repeat (first | exact .head _ | refine .tail _ ?_)) (i : Int) (by omega) (by omega) (by rfl) (fun w cs h => (k37_open h).trans hus) (by rfl)) rfl rfl rfl ?_
      | refine Jl.yd (Y.cat rfl rfl rfl (by (try simp only [ByteArray.size_append', dot_size, spc_size, emp_size]); omega)) rfl rfl rfl ?_
      | refine litL (T := 34) 10 #[.string ⟨#[]⟩, .string ⟨#[112]⟩, .string ⟨#[116]⟩, .string ⟨#[109]⟩, .string ⟨#[98]⟩, .string ⟨#[117]⟩, .string ⟨#[114]⟩, .string ⟨#[99]⟩, .string ⟨#[115]⟩, .string ⟨#[120]⟩] 9 rfl rfl rfl rfl (by intro a w; kernel_rfl) (fun gl => ?_)
      | refine Jl.yd (Y.idx0 rfl rfl rfl el34 (by omega) (by omega)) rfl rfl rfl ?_
      | refine Jl.yd (Y.load1 rfl rfl sc9 (by repeat (first | exact .head _ | refine .tail _ ?_)) hnm) rfl rfl rfl ?_
      | refine Jl.call1 (v := .string (dec x.f1)) rfl rfl rfl rfl en28 rfl (fun w hW => num_ x.f1 (by omega) w) ?_
      | refine Jl.splitG rfl rfl (fun h => ?_) (fun h => ?_))
    | (apply gateE; first
      | refine Jl.nil (Ej.go ?_ (fun _ _ h => h))
      | (refine Jl.nil (Ej.back (fun _ _ h => h) (by repeat (first | exact .refl | apply DropTo.tail)) ?_); repeat (first | exact trivial | refine ⟨rfl, ?_⟩)))
    | (apply gateC; first
      | refine Cj.block rfl ?_
      | refine Cj.condF rfl rfl (Cj.skip rfl (Ej.go ?_ (fun _ _ h => h)))
      | (refine Cj.condF rfl rfl (Cj.skip rfl (Ej.back (fun _ _ h => h) (by repeat (first | exact .refl | apply DropTo.tail)) ?_)); repeat (first | exact trivial | refine ⟨rfl, ?_⟩))
      | refine Cj.condF rfl rfl ?_
      | refine Cj.condT rfl rfl ?_
      | refine Cj.exit rfl (Ej.go ?_ (fun _ _ h => h))
      | refine Cj.cond rfl rfl (fun h => ?_) (fun h => ?_)
      | refine Cj.skip rfl (Ej.go ?_ (fun _ _ h => h))
      | (refine Cj.skip rfl (Ej.back (fun _ _ h => h) (by repeat (first | exact .refl | apply DropTo.tail)) ?_); repeat (first | exact trivial | refine ⟨rfl, ?_⟩))
      | refine Cj.seq rfl ?_
      | refine Cj.region rfl ?_))
      have eN : ((s ++ ⟨#[32]⟩) ++ letT x.f0) = desT xs (i + 1) := by rw [eT, if_pos hp]; exact eq0 _ h1 h6 h9
      clear sl hss 
      generalize ((s ++ ⟨#[32]⟩) ++ letT x.f0) = nw at eN ⊢
      refine Jl.nil (Ej.cutP (ι := Nat × ByteArray) _ _ _ _ (fun _ _ h => h) (i + 1, nw) ⟨⟨by dsimp only; omega, eN⟩, by dsimp only; omega⟩ ⟨rfl, rfl, rfl, trivial⟩ (by repeat (first | exact .nil | refine Pick.cons (by repeat (first | exact .z | apply OutAt.s)) ?_)) (fun p hp => hp))
    · skip
      by_cases h1 : x.f0 = 1
      · have hb1 := hk1 h1
        have sz_f1 := dec_size x.f1 (by omega) (by omega)
        have sz_f2 := dec_size x.f2 (by omega) (by omega)
        have sz_f3 := dec_size x.f3 (by omega) (by omega)
        repeat (first
    | (apply gateO; first
      | refine Jl.yd (Y.mv rfl rfl) rfl rfl rfl ?_
      | refine Jl.yd (Y.asg rfl rfl) rfl rfl rfl ?_
      | refine Jl.yd (Y.ext rfl rfl rfl) rfl rfl rfl ?_
      | refine Jl.yd (Y.pickT rfl rfl rfl) rfl rfl rfl ?_
      | refine Jl.yd (Y.pickF rfl rfl rfl) rfl rfl rfl ?_
      | refine Jl.off rfl rfl rfl ?_
      | refine Jl.yd (Y.cmpF rfl rfl rfl rfl (by omega)) rfl rfl rfl ?_
      | refine Jl.yd (Y.cmpT rfl rfl rfl rfl (by omega)) rfl rfl rfl ?_
      | refine Jl.yd (Y.neqB rfl rfl rfl Tryd.underlying4) rfl rfl rfl ?_
      | refine Jl.yd (Y.cmp rfl rfl rfl rfl) rfl rfl rfl ?_
      | refine Jl.yd (Y.not rfl rfl) rfl rfl rfl ?_
      | refine Jl.yd (Y.arithN rfl rfl rfl rfl (by omega)) rfl rfl rfl ?_
      | refine Jl.yd (Y.arith64 rfl rfl rfl rfl) rfl rfl rfl ?_
      | refine Jl.yd (Y.loadA rfl rfl agg37 (by repeat (first | exact .head _ | refine .tail _ ?_)) (by rfl)) rfl rfl rfl ?_
      | refine Jl.yd (Y.load1 rfl rfl sc3 (by repeat (first | exact .head _ | refine .tail _ ?_)) (by rfl)) rfl rfl rfl ?_
      | refine Jl.yd (Y.fld0 rfl rfl fld37_0) rfl rfl rfl ?_
      | refine Jl.yd (Y.fld0 rfl rfl fld37_1) rfl rfl rfl ?_
      | refine Jl.alloc rfl rfl rfl rfl zero37 (fun g => ?_)
      | refine Jl.storeA rfl rfl rfl rfl rfl sz37 (by repeat (first | exact .z | apply SetAt.s)) (by rfl) (by rfl) ?_
      | refine Jl.yd (Y.lenS Tryd.underlying22 rfl rfl rfl) rfl rfl rfl ?_
      | refine Jl.yd (Y.idx rfl rfl rfl el22 (by omega) (by omega)) rfl rfl rfl ?_
      | refine Jl.yd (Y.loadK z37 [.int .i64 x.f0, .int .i64 x.f1, .int .i64 x.f2, .int .i64 x.f3] rfl rfl agg37 (by repeat (first | exact .head _ | refine .tail _ ?_)) (i : Int) (by omega) (by omega) (by rfl) (fun w cs h => (k37_open h).trans hus) (by rfl)) rfl rfl rfl ?_
      | refine Jl.yd (Y.cat rfl rfl rfl (by (try simp only [ByteArray.size_append', dot_size, spc_size, emp_size]); omega)) rfl rfl rfl ?_
      | refine litL (T := 34) 10 #[.string ⟨#[]⟩, .string ⟨#[112]⟩, .string ⟨#[116]⟩, .string ⟨#[109]⟩, .string ⟨#[98]⟩, .string ⟨#[117]⟩, .string ⟨#[114]⟩, .string ⟨#[99]⟩, .string ⟨#[115]⟩, .string ⟨#[120]⟩] 9 rfl rfl rfl rfl (by intro a w; kernel_rfl) (fun gl => ?_)
      | refine Jl.yd (Y.idx0 rfl rfl rfl el34 (by omega) (by omega)) rfl rfl rfl ?_
      | refine Jl.yd (Y.load1 rfl rfl sc9 (by repeat (first | exact .head _ | refine .tail _ ?_)) hnm) rfl rfl rfl ?_
      | refine Jl.call1 (v := .string (dec x.f1)) rfl rfl rfl rfl en28 rfl (fun w hW => num_ x.f1 (by omega) w) ?_
      | refine Jl.splitG rfl rfl (fun h => ?_) (fun h => ?_))
    | (apply gateE; first
      | refine Jl.nil (Ej.go ?_ (fun _ _ h => h))
      | (refine Jl.nil (Ej.back (fun _ _ h => h) (by repeat (first | exact .refl | apply DropTo.tail)) ?_); repeat (first | exact trivial | refine ⟨rfl, ?_⟩)))
    | (apply gateC; first
      | refine Cj.block rfl ?_
      | refine Cj.condF rfl rfl (Cj.skip rfl (Ej.go ?_ (fun _ _ h => h)))
      | (refine Cj.condF rfl rfl (Cj.skip rfl (Ej.back (fun _ _ h => h) (by repeat (first | exact .refl | apply DropTo.tail)) ?_)); repeat (first | exact trivial | refine ⟨rfl, ?_⟩))
      | refine Cj.condF rfl rfl ?_
      | refine Cj.condT rfl rfl ?_
      | refine Cj.exit rfl (Ej.go ?_ (fun _ _ h => h))
      | refine Cj.cond rfl rfl (fun h => ?_) (fun h => ?_)
      | refine Cj.skip rfl (Ej.go ?_ (fun _ _ h => h))
      | (refine Cj.skip rfl (Ej.back (fun _ _ h => h) (by repeat (first | exact .refl | apply DropTo.tail)) ?_); repeat (first | exact trivial | refine ⟨rfl, ?_⟩))
      | refine Cj.seq rfl ?_
      | refine Cj.region rfl ?_))
        refine Cj.regionJ rfl [] mixed ?_
        refine Jw.take 0 rfl (by decide +kernel) (by intro c a d v w h; cases d <;> exact h) (fun w => Y.mv rfl rfl) rfl rfl rfl ?_
        refine Jw.take 1 rfl (by decide +kernel) (by intro c a d v w h; cases d <;> exact h) (fun w => Y.fld0 rfl rfl fld37_1) rfl rfl rfl ?_
        refine Jw.take 6 rfl (by decide +kernel) (by intro c a d v w h; cases d <;> exact h) (fun w => Y.fld0 rfl rfl fld37_2) rfl rfl rfl ?_
        refine Jw.take 11 rfl (by decide +kernel) (by intro c a d v w h; cases d <;> exact h) (fun w => Y.fld0 rfl rfl fld37_3) rfl rfl rfl ?_
        refine Jw.takeR 2 rfl (by decide +kernel) (by intro c a d v w h; cases d <;> exact h) (Y.load1 rfl rfl sc3 (by repeat (first | exact .head _ | refine .tail _ ?_)) (by rfl)) rfl rfl rfl ?_
        refine Jw.takeR 7 rfl (by decide +kernel) (by intro c a d v w h; cases d <;> exact h) (Y.load1 rfl rfl sc3 (by repeat (first | exact .head _ | refine .tail _ ?_)) (by rfl)) rfl rfl rfl ?_
        refine Jw.takeR 12 rfl (by decide +kernel) (by intro c a d v w h; cases d <;> exact h) (Y.load1 rfl rfl sc3 (by repeat (first | exact .head _ | refine .tail _ ?_)) (by rfl)) rfl rfl rfl ?_
        refine Jw.step (mkD [] []) 3 rfl (by decide +kernel) rfl rfl ?_
        refine Jl.call1 (v := .string (dec x.f1)) rfl rfl rfl rfl en28 rfl (fun w hW => num_ x.f1 (by omega) w) ?_
        refine Jl.jw ?_
        refine Jw.take 4 rfl (by decide +kernel) (by intro c a d v w h; cases d <;> exact h) (fun w => Y.cat rfl rfl rfl (by (try simp only [ByteArray.size_append', dot_size, spc_size, emp_size]); omega)) rfl rfl rfl ?_
        refine Jw.take 5 rfl (by decide +kernel) (by intro c a d v w h; cases d <;> exact h) (fun w => Y.cat rfl rfl rfl (by (try simp only [ByteArray.size_append', dot_size, spc_size, emp_size]); omega)) rfl rfl rfl ?_
        refine Jw.step (mkD [] []) 8 rfl (by decide +kernel) rfl rfl ?_
        refine Jl.call1 (v := .string (dec x.f2)) rfl rfl rfl rfl en28 rfl (fun w hW => num_ x.f2 (by omega) w) ?_
        refine Jl.jw ?_
        refine Jw.take 9 rfl (by decide +kernel) (by intro c a d v w h; cases d <;> exact h) (fun w => Y.cat rfl rfl rfl (by (try simp only [ByteArray.size_append', dot_size, spc_size, emp_size]); omega)) rfl rfl rfl ?_
        refine Jw.take 10 rfl (by decide +kernel) (by intro c a d v w h; cases d <;> exact h) (fun w => Y.cat rfl rfl rfl (by (try simp only [ByteArray.size_append', dot_size, spc_size, emp_size]); omega)) rfl rfl rfl ?_
        refine Jw.step (mkD [] []) 13 rfl (by decide +kernel) rfl rfl ?_
        refine Jl.call1 (v := .string (dec x.f3)) rfl rfl rfl rfl en28 rfl (fun w hW => num_ x.f3 (by omega) w) ?_
        refine Jl.jw ?_
        refine Jw.take 14 rfl (by decide +kernel) (by intro c a d v w h; cases d <;> exact h) (fun w => Y.cat rfl rfl rfl (by (try simp only [ByteArray.size_append', dot_size, spc_size, emp_size]); omega)) rfl rfl rfl ?_
        refine Jw.take 15 rfl (by decide +kernel) (by intro c a d v w h; cases d <;> exact h) (fun w => Y.asg rfl rfl) rfl rfl rfl ?_
        refine Jw.done (by decide +kernel) (Ej.go ?_ (fun _ _ h => h))
        repeat (first
    | (apply gateO; first
      | refine Jl.yd (Y.mv rfl rfl) rfl rfl rfl ?_
      | refine Jl.yd (Y.asg rfl rfl) rfl rfl rfl ?_
      | refine Jl.yd (Y.ext rfl rfl rfl) rfl rfl rfl ?_
      | refine Jl.yd (Y.pickT rfl rfl rfl) rfl rfl rfl ?_
      | refine Jl.yd (Y.pickF rfl rfl rfl) rfl rfl rfl ?_
      | refine Jl.off rfl rfl rfl ?_
      | refine Jl.yd (Y.cmpF rfl rfl rfl rfl (by omega)) rfl rfl rfl ?_
      | refine Jl.yd (Y.cmpT rfl rfl rfl rfl (by omega)) rfl rfl rfl ?_
      | refine Jl.yd (Y.neqB rfl rfl rfl Tryd.underlying4) rfl rfl rfl ?_
      | refine Jl.yd (Y.cmp rfl rfl rfl rfl) rfl rfl rfl ?_
      | refine Jl.yd (Y.not rfl rfl) rfl rfl rfl ?_
      | refine Jl.yd (Y.arithN rfl rfl rfl rfl (by omega)) rfl rfl rfl ?_
      | refine Jl.yd (Y.arith64 rfl rfl rfl rfl) rfl rfl rfl ?_
      | refine Jl.splitG rfl rfl (fun h => ?_) (fun h => ?_))
    | (apply gateE; first
      | refine Jl.nil (Ej.go ?_ (fun _ _ h => h))
      | (refine Jl.nil (Ej.back (fun _ _ h => h) (by repeat (first | exact .refl | apply DropTo.tail)) ?_); repeat (first | exact trivial | refine ⟨rfl, ?_⟩)))
    | (apply gateC; first
      | refine Cj.block rfl ?_
      | refine Cj.condF rfl rfl (Cj.skip rfl (Ej.go ?_ (fun _ _ h => h)))
      | (refine Cj.condF rfl rfl (Cj.skip rfl (Ej.back (fun _ _ h => h) (by repeat (first | exact .refl | apply DropTo.tail)) ?_)); repeat (first | exact trivial | refine ⟨rfl, ?_⟩))
      | refine Cj.condF rfl rfl ?_
      | refine Cj.condT rfl rfl ?_
      | refine Cj.exit rfl (Ej.go ?_ (fun _ _ h => h))
      | refine Cj.cond rfl rfl (fun h => ?_) (fun h => ?_)
      | refine Cj.skip rfl (Ej.go ?_ (fun _ _ h => h))
      | (refine Cj.skip rfl (Ej.back (fun _ _ h => h) (by repeat (first | exact .refl | apply DropTo.tail)) ?_); repeat (first | exact trivial | refine ⟨rfl, ?_⟩))
      | refine Cj.seq rfl ?_
      | refine Cj.region rfl ?_))
        have eN : ((((((s ++ letT x.f0) ++ dec x.f1) ++ ⟨#[46]⟩) ++ dec x.f2) ++ ⟨#[46]⟩) ++ dec x.f3) = desT xs (i + 1) := by rw [eT, if_neg hp]; exact eq1 _ h1
        clear sl hss sz_f1 sz_f2 sz_f3
        generalize ((((((s ++ letT x.f0) ++ dec x.f1) ++ ⟨#[46]⟩) ++ dec x.f2) ++ ⟨#[46]⟩) ++ dec x.f3) = nw at eN ⊢
        refine Jl.nil (Ej.cutP (ι := Nat × ByteArray) _ _ _ _ (fun _ _ h => h) (i + 1, nw) ⟨⟨by dsimp only; omega, eN⟩, by dsimp only; omega⟩ ⟨rfl, rfl, rfl, trivial⟩ (by repeat (first | exact .nil | refine Pick.cons (by repeat (first | exact .z | apply OutAt.s)) ?_)) (fun p hp => hp))
      by_cases h6 : x.f0 = 6
      · have hb6 := hk6 h6
        have sz_f1 := dec_size x.f1 (by omega) (by omega)
        repeat (first
    | (apply gateO; first
      | refine Jl.yd (Y.mv rfl rfl) rfl rfl rfl ?_
      | refine Jl.yd (Y.asg rfl rfl) rfl rfl rfl ?_
      | refine Jl.yd (Y.ext rfl rfl rfl) rfl rfl rfl ?_
      | refine Jl.yd (Y.pickT rfl rfl rfl) rfl rfl rfl ?_
      | refine Jl.yd (Y.pickF rfl rfl rfl) rfl rfl rfl ?_
      | refine Jl.off rfl rfl rfl ?_
      | refine Jl.yd (Y.cmpF rfl rfl rfl rfl (by omega)) rfl rfl rfl ?_
      | refine Jl.yd (Y.cmpT rfl rfl rfl rfl (by omega)) rfl rfl rfl ?_
      | refine Jl.yd (Y.neqB rfl rfl rfl Tryd.underlying4) rfl rfl rfl ?_
      | refine Jl.yd (Y.cmp rfl rfl rfl rfl) rfl rfl rfl ?_
      | refine Jl.yd (Y.not rfl rfl) rfl rfl rfl ?_
      | refine Jl.yd (Y.arithN rfl rfl rfl rfl (by omega)) rfl rfl rfl ?_
      | refine Jl.yd (Y.arith64 rfl rfl rfl rfl) rfl rfl rfl ?_
      | refine Jl.yd (Y.loadA rfl rfl agg37 (by repeat (first | exact .head _ | refine .tail _ ?_)) (by rfl)) rfl rfl rfl ?_
      | refine Jl.yd (Y.load1 rfl rfl sc3 (by repeat (first | exact .head _ | refine .tail _ ?_)) (by rfl)) rfl rfl rfl ?_
      | refine Jl.yd (Y.fld0 rfl rfl fld37_0) rfl rfl rfl ?_
      | refine Jl.yd (Y.fld0 rfl rfl fld37_1) rfl rfl rfl ?_
      | refine Jl.alloc rfl rfl rfl rfl zero37 (fun g => ?_)
      | refine Jl.storeA rfl rfl rfl rfl rfl sz37 (by repeat (first | exact .z | apply SetAt.s)) (by rfl) (by rfl) ?_
      | refine Jl.yd (Y.lenS Tryd.underlying22 rfl rfl rfl) rfl rfl rfl ?_
      | refine Jl.yd (Y.idx rfl rfl rfl el22 (by omega) (by omega)) rfl rfl rfl ?_
      | refine Jl.yd (Y.loadK z37 [.int .i64 x.f0, .int .i64 x.f1, .int .i64 x.f2, .int .i64 x.f3] rfl rfl agg37 (by repeat (first | exact .head _ | refine .tail _ ?_)) (i : Int) (by omega) (by omega) (by rfl) (fun w cs h => (k37_open h).trans hus) (by rfl)) rfl rfl rfl ?_
      | refine Jl.yd (Y.cat rfl rfl rfl (by (try simp only [ByteArray.size_append', dot_size, spc_size, emp_size]); omega)) rfl rfl rfl ?_
      | refine litL (T := 34) 10 #[.string ⟨#[]⟩, .string ⟨#[112]⟩, .string ⟨#[116]⟩, .string ⟨#[109]⟩, .string ⟨#[98]⟩, .string ⟨#[117]⟩, .string ⟨#[114]⟩, .string ⟨#[99]⟩, .string ⟨#[115]⟩, .string ⟨#[120]⟩] 9 rfl rfl rfl rfl (by intro a w; kernel_rfl) (fun gl => ?_)
      | refine Jl.yd (Y.idx0 rfl rfl rfl el34 (by omega) (by omega)) rfl rfl rfl ?_
      | refine Jl.yd (Y.load1 rfl rfl sc9 (by repeat (first | exact .head _ | refine .tail _ ?_)) hnm) rfl rfl rfl ?_
      | refine Jl.call1 (v := .string (dec x.f1)) rfl rfl rfl rfl en28 rfl (fun w hW => num_ x.f1 (by omega) w) ?_
      | refine Jl.splitG rfl rfl (fun h => ?_) (fun h => ?_))
    | (apply gateE; first
      | refine Jl.nil (Ej.go ?_ (fun _ _ h => h))
      | (refine Jl.nil (Ej.back (fun _ _ h => h) (by repeat (first | exact .refl | apply DropTo.tail)) ?_); repeat (first | exact trivial | refine ⟨rfl, ?_⟩)))
    | (apply gateC; first
      | refine Cj.block rfl ?_
      | refine Cj.condF rfl rfl (Cj.skip rfl (Ej.go ?_ (fun _ _ h => h)))
      | (refine Cj.condF rfl rfl (Cj.skip rfl (Ej.back (fun _ _ h => h) (by repeat (first | exact .refl | apply DropTo.tail)) ?_)); repeat (first | exact trivial | refine ⟨rfl, ?_⟩))
      | refine Cj.condF rfl rfl ?_
      | refine Cj.condT rfl rfl ?_
      | refine Cj.exit rfl (Ej.go ?_ (fun _ _ h => h))
      | refine Cj.cond rfl rfl (fun h => ?_) (fun h => ?_)
      | refine Cj.skip rfl (Ej.go ?_ (fun _ _ h => h))
      | (refine Cj.skip rfl (Ej.back (fun _ _ h => h) (by repeat (first | exact .refl | apply DropTo.tail)) ?_); repeat (first | exact trivial | refine ⟨rfl, ?_⟩))
      | refine Cj.seq rfl ?_
      | refine Cj.region rfl ?_))
        have eN : ((s ++ letT x.f0) ++ dec x.f1) = desT xs (i + 1) := by rw [eT, if_neg hp]; exact eq6 _ h6
        clear sl hss sz_f1
        generalize ((s ++ letT x.f0) ++ dec x.f1) = nw at eN ⊢
        refine Jl.nil (Ej.cutP (ι := Nat × ByteArray) _ _ _ _ (fun _ _ h => h) (i + 1, nw) ⟨⟨by dsimp only; omega, eN⟩, by dsimp only; omega⟩ ⟨rfl, rfl, rfl, trivial⟩ (by repeat (first | exact .nil | refine Pick.cons (by repeat (first | exact .z | apply OutAt.s)) ?_)) (fun p hp => hp))
      by_cases h9 : x.f0 = 9
      · have hb9 := hk9 h9
        have sz_f1 := dec_size x.f1 (by omega) (by omega)
        have sz_f2 := dec_size x.f2 (by omega) (by omega)
        repeat (first
    | (apply gateO; first
      | refine Jl.yd (Y.mv rfl rfl) rfl rfl rfl ?_
      | refine Jl.yd (Y.asg rfl rfl) rfl rfl rfl ?_
      | refine Jl.yd (Y.ext rfl rfl rfl) rfl rfl rfl ?_
      | refine Jl.yd (Y.pickT rfl rfl rfl) rfl rfl rfl ?_
      | refine Jl.yd (Y.pickF rfl rfl rfl) rfl rfl rfl ?_
      | refine Jl.off rfl rfl rfl ?_
      | refine Jl.yd (Y.cmpF rfl rfl rfl rfl (by omega)) rfl rfl rfl ?_
      | refine Jl.yd (Y.cmpT rfl rfl rfl rfl (by omega)) rfl rfl rfl ?_
      | refine Jl.yd (Y.neqB rfl rfl rfl Tryd.underlying4) rfl rfl rfl ?_
      | refine Jl.yd (Y.cmp rfl rfl rfl rfl) rfl rfl rfl ?_
      | refine Jl.yd (Y.not rfl rfl) rfl rfl rfl ?_
      | refine Jl.yd (Y.arithN rfl rfl rfl rfl (by omega)) rfl rfl rfl ?_
      | refine Jl.yd (Y.arith64 rfl rfl rfl rfl) rfl rfl rfl ?_
      | refine Jl.yd (Y.loadA rfl rfl agg37 (by repeat (first | exact .head _ | refine .tail _ ?_)) (by rfl)) rfl rfl rfl ?_
      | refine Jl.yd (Y.load1 rfl rfl sc3 (by repeat (first | exact .head _ | refine .tail _ ?_)) (by rfl)) rfl rfl rfl ?_
      | refine Jl.yd (Y.fld0 rfl rfl fld37_0) rfl rfl rfl ?_
      | refine Jl.yd (Y.fld0 rfl rfl fld37_1) rfl rfl rfl ?_
      | refine Jl.alloc rfl rfl rfl rfl zero37 (fun g => ?_)
      | refine Jl.storeA rfl rfl rfl rfl rfl sz37 (by repeat (first | exact .z | apply SetAt.s)) (by rfl) (by rfl) ?_
      | refine Jl.yd (Y.lenS Tryd.underlying22 rfl rfl rfl) rfl rfl rfl ?_
      | refine Jl.yd (Y.idx rfl rfl rfl el22 (by omega) (by omega)) rfl rfl rfl ?_
      | refine Jl.yd (Y.loadK z37 [.int .i64 x.f0, .int .i64 x.f1, .int .i64 x.f2, .int .i64 x.f3] rfl rfl agg37 (by repeat (first | exact .head _ | refine .tail _ ?_)) (i : Int) (by omega) (by omega) (by rfl) (fun w cs h => (k37_open h).trans hus) (by rfl)) rfl rfl rfl ?_
      | refine Jl.yd (Y.cat rfl rfl rfl (by (try simp only [ByteArray.size_append', dot_size, spc_size, emp_size]); omega)) rfl rfl rfl ?_
      | refine litL (T := 34) 10 #[.string ⟨#[]⟩, .string ⟨#[112]⟩, .string ⟨#[116]⟩, .string ⟨#[109]⟩, .string ⟨#[98]⟩, .string ⟨#[117]⟩, .string ⟨#[114]⟩, .string ⟨#[99]⟩, .string ⟨#[115]⟩, .string ⟨#[120]⟩] 9 rfl rfl rfl rfl (by intro a w; kernel_rfl) (fun gl => ?_)
      | refine Jl.yd (Y.idx0 rfl rfl rfl el34 (by omega) (by omega)) rfl rfl rfl ?_
      | refine Jl.yd (Y.load1 rfl rfl sc9 (by repeat (first | exact .head _ | refine .tail _ ?_)) hnm) rfl rfl rfl ?_
      | refine Jl.call1 (v := .string (dec x.f1)) rfl rfl rfl rfl en28 rfl (fun w hW => num_ x.f1 (by omega) w) ?_
      | refine Jl.splitG rfl rfl (fun h => ?_) (fun h => ?_))
    | (apply gateE; first
      | refine Jl.nil (Ej.go ?_ (fun _ _ h => h))
      | (refine Jl.nil (Ej.back (fun _ _ h => h) (by repeat (first | exact .refl | apply DropTo.tail)) ?_); repeat (first | exact trivial | refine ⟨rfl, ?_⟩)))
    | (apply gateC; first
      | refine Cj.block rfl ?_
      | refine Cj.condF rfl rfl (Cj.skip rfl (Ej.go ?_ (fun _ _ h => h)))
      | (refine Cj.condF rfl rfl (Cj.skip rfl (Ej.back (fun _ _ h => h) (by repeat (first | exact .refl | apply DropTo.tail)) ?_)); repeat (first | exact trivial | refine ⟨rfl, ?_⟩))
      | refine Cj.condF rfl rfl ?_
      | refine Cj.condT rfl rfl ?_
      | refine Cj.exit rfl (Ej.go ?_ (fun _ _ h => h))
      | refine Cj.cond rfl rfl (fun h => ?_) (fun h => ?_)
      | refine Cj.skip rfl (Ej.go ?_ (fun _ _ h => h))
      | (refine Cj.skip rfl (Ej.back (fun _ _ h => h) (by repeat (first | exact .refl | apply DropTo.tail)) ?_); repeat (first | exact trivial | refine ⟨rfl, ?_⟩))
      | refine Cj.seq rfl ?_
      | refine Cj.region rfl ?_))
        refine Cj.regionJ rfl [] mixed ?_
        refine Jw.take 0 rfl (by decide +kernel) (by intro c a d v w h; cases d <;> exact h) (fun w => Y.mv rfl rfl) rfl rfl rfl ?_
        refine Jw.take 1 rfl (by decide +kernel) (by intro c a d v w h; cases d <;> exact h) (fun w => Y.fld0 rfl rfl fld37_1) rfl rfl rfl ?_
        refine Jw.take 6 rfl (by decide +kernel) (by intro c a d v w h; cases d <;> exact h) (fun w => Y.fld0 rfl rfl fld37_2) rfl rfl rfl ?_
        refine Jw.takeR 2 rfl (by decide +kernel) (by intro c a d v w h; cases d <;> exact h) (Y.load1 rfl rfl sc3 (by repeat (first | exact .head _ | refine .tail _ ?_)) (by rfl)) rfl rfl rfl ?_
        refine Jw.takeR 7 rfl (by decide +kernel) (by intro c a d v w h; cases d <;> exact h) (Y.load1 rfl rfl sc3 (by repeat (first | exact .head _ | refine .tail _ ?_)) (by rfl)) rfl rfl rfl ?_
        refine Jw.step (mkD [] []) 3 rfl (by decide +kernel) rfl rfl ?_
        refine Jl.call1 (v := .string (dec x.f1)) rfl rfl rfl rfl en28 rfl (fun w hW => num_ x.f1 (by omega) w) ?_
        refine Jl.jw ?_
        refine Jw.take 4 rfl (by decide +kernel) (by intro c a d v w h; cases d <;> exact h) (fun w => Y.cat rfl rfl rfl (by (try simp only [ByteArray.size_append', dot_size, spc_size, emp_size]); omega)) rfl rfl rfl ?_
        refine Jw.take 5 rfl (by decide +kernel) (by intro c a d v w h; cases d <;> exact h) (fun w => Y.cat rfl rfl rfl (by (try simp only [ByteArray.size_append', dot_size, spc_size, emp_size]); omega)) rfl rfl rfl ?_
        refine Jw.step (mkD [] []) 8 rfl (by decide +kernel) rfl rfl ?_
        refine Jl.call1 (v := .string (dec x.f2)) rfl rfl rfl rfl en28 rfl (fun w hW => num_ x.f2 (by omega) w) ?_
        refine Jl.jw ?_
        refine Jw.take 9 rfl (by decide +kernel) (by intro c a d v w h; cases d <;> exact h) (fun w => Y.cat rfl rfl rfl (by (try simp only [ByteArray.size_append', dot_size, spc_size, emp_size]); omega)) rfl rfl rfl ?_
        refine Jw.take 10 rfl (by decide +kernel) (by intro c a d v w h; cases d <;> exact h) (fun w => Y.asg rfl rfl) rfl rfl rfl ?_
        refine Jw.done (by decide +kernel) (Ej.go ?_ (fun _ _ h => h))
        repeat (first
    | (apply gateO; first
      | refine Jl.yd (Y.mv rfl rfl) rfl rfl rfl ?_
      | refine Jl.yd (Y.asg rfl rfl) rfl rfl rfl ?_
      | refine Jl.yd (Y.ext rfl rfl rfl) rfl rfl rfl ?_
      | refine Jl.yd (Y.pickT rfl rfl rfl) rfl rfl rfl ?_
      | refine Jl.yd (Y.pickF rfl rfl rfl) rfl rfl rfl ?_
      | refine Jl.off rfl rfl rfl ?_
      | refine Jl.yd (Y.cmpF rfl rfl rfl rfl (by omega)) rfl rfl rfl ?_
      | refine Jl.yd (Y.cmpT rfl rfl rfl rfl (by omega)) rfl rfl rfl ?_
      | refine Jl.yd (Y.neqB rfl rfl rfl Tryd.underlying4) rfl rfl rfl ?_
      | refine Jl.yd (Y.cmp rfl rfl rfl rfl) rfl rfl rfl ?_
      | refine Jl.yd (Y.not rfl rfl) rfl rfl rfl ?_
      | refine Jl.yd (Y.arithN rfl rfl rfl rfl (by omega)) rfl rfl rfl ?_
      | refine Jl.yd (Y.arith64 rfl rfl rfl rfl) rfl rfl rfl ?_
      | refine Jl.splitG rfl rfl (fun h => ?_) (fun h => ?_))
    | (apply gateE; first
      | refine Jl.nil (Ej.go ?_ (fun _ _ h => h))
      | (refine Jl.nil (Ej.back (fun _ _ h => h) (by repeat (first | exact .refl | apply DropTo.tail)) ?_); repeat (first | exact trivial | refine ⟨rfl, ?_⟩)))
    | (apply gateC; first
      | refine Cj.block rfl ?_
      | refine Cj.condF rfl rfl (Cj.skip rfl (Ej.go ?_ (fun _ _ h => h)))
      | (refine Cj.condF rfl rfl (Cj.skip rfl (Ej.back (fun _ _ h => h) (by repeat (first | exact .refl | apply DropTo.tail)) ?_)); repeat (first | exact trivial | refine ⟨rfl, ?_⟩))
      | refine Cj.condF rfl rfl ?_
      | refine Cj.condT rfl rfl ?_
      | refine Cj.exit rfl (Ej.go ?_ (fun _ _ h => h))
      | refine Cj.cond rfl rfl (fun h => ?_) (fun h => ?_)
      | refine Cj.skip rfl (Ej.go ?_ (fun _ _ h => h))
      | (refine Cj.skip rfl (Ej.back (fun _ _ h => h) (by repeat (first | exact .refl | apply DropTo.tail)) ?_); repeat (first | exact trivial | refine ⟨rfl, ?_⟩))
      | refine Cj.seq rfl ?_
      | refine Cj.region rfl ?_))
        have eN : ((((s ++ letT x.f0) ++ dec x.f1) ++ ⟨#[46]⟩) ++ dec x.f2) = desT xs (i + 1) := by rw [eT, if_neg hp]; exact eq9 _ h9
        clear sl hss sz_f1 sz_f2
        generalize ((((s ++ letT x.f0) ++ dec x.f1) ++ ⟨#[46]⟩) ++ dec x.f2) = nw at eN ⊢
        refine Jl.nil (Ej.cutP (ι := Nat × ByteArray) _ _ _ _ (fun _ _ h => h) (i + 1, nw) ⟨⟨by dsimp only; omega, eN⟩, by dsimp only; omega⟩ ⟨rfl, rfl, rfl, trivial⟩ (by repeat (first | exact .nil | refine Pick.cons (by repeat (first | exact .z | apply OutAt.s)) ?_)) (fun p hp => hp))
      repeat (first
    | (apply gateO; first
      | refine Jl.yd (Y.mv rfl rfl) rfl rfl rfl ?_
      | refine Jl.yd (Y.asg rfl rfl) rfl rfl rfl ?_
      | refine Jl.yd (Y.ext rfl rfl rfl) rfl rfl rfl ?_
      | refine Jl.yd (Y.pickT rfl rfl rfl) rfl rfl rfl ?_
      | refine Jl.yd (Y.pickF rfl rfl rfl) rfl rfl rfl ?_
      | refine Jl.off rfl rfl rfl ?_
      | refine Jl.yd (Y.cmpF rfl rfl rfl rfl (by omega)) rfl rfl rfl ?_
      | refine Jl.yd (Y.cmpT rfl rfl rfl rfl (by omega)) rfl rfl rfl ?_
      | refine Jl.yd (Y.neqB rfl rfl rfl Tryd.underlying4) rfl rfl rfl ?_
      | refine Jl.yd (Y.cmp rfl rfl rfl rfl) rfl rfl rfl ?_
      | refine Jl.yd (Y.not rfl rfl) rfl rfl rfl ?_
      | refine Jl.yd (Y.arithN rfl rfl rfl rfl (by omega)) rfl rfl rfl ?_
      | refine Jl.yd (Y.arith64 rfl rfl rfl rfl) rfl rfl rfl ?_
      | refine Jl.yd (Y.loadA rfl rfl agg37 (by repeat (first | exact .head _ | refine .tail _ ?_)) (by rfl)) rfl rfl rfl ?_
      | refine Jl.yd (Y.load1 rfl rfl sc3 (by repeat (first | exact .head _ | refine .tail _ ?_)) (by rfl)) rfl rfl rfl ?_
      | refine Jl.yd (Y.fld0 rfl rfl fld37_0) rfl rfl rfl ?_
      | refine Jl.yd (Y.fld0 rfl rfl fld37_1) rfl rfl rfl ?_
      | refine Jl.alloc rfl rfl rfl rfl zero37 (fun g => ?_)
      | refine Jl.storeA rfl rfl rfl rfl rfl sz37 (by repeat (first | exact .z | apply SetAt.s)) (by rfl) (by rfl) ?_
      | refine Jl.yd (Y.lenS Tryd.underlying22 rfl rfl rfl) rfl rfl rfl ?_
      | refine Jl.yd (Y.idx rfl rfl rfl el22 (by omega) (by omega)) rfl rfl rfl ?_
      | refine Jl.yd (Y.loadK z37 [.int .i64 x.f0, .int .i64 x.f1, .int .i64 x.f2, .int .i64 x.f3] rfl rfl agg37 (by repeat (first | exact .head _ | refine .tail _ ?_)) (i : Int) (by omega) (by omega) (by rfl) (fun w cs h => (k37_open h).trans hus) (by rfl)) rfl rfl rfl ?_
      | refine Jl.yd (Y.cat rfl rfl rfl (by (try simp only [ByteArray.size_append', dot_size, spc_size, emp_size]); omega)) rfl rfl rfl ?_
      | refine litL (T := 34) 10 #[.string ⟨#[]⟩, .string ⟨#[112]⟩, .string ⟨#[116]⟩, .string ⟨#[109]⟩, .string ⟨#[98]⟩, .string ⟨#[117]⟩, .string ⟨#[114]⟩, .string ⟨#[99]⟩, .string ⟨#[115]⟩, .string ⟨#[120]⟩] 9 rfl rfl rfl rfl (by intro a w; kernel_rfl) (fun gl => ?_)
      | refine Jl.yd (Y.idx0 rfl rfl rfl el34 (by omega) (by omega)) rfl rfl rfl ?_
      | refine Jl.yd (Y.load1 rfl rfl sc9 (by repeat (first | exact .head _ | refine .tail _ ?_)) hnm) rfl rfl rfl ?_
      | refine Jl.call1 (v := .string (dec x.f1)) rfl rfl rfl rfl en28 rfl (fun w hW => num_ x.f1 (by omega) w) ?_
      | refine Jl.splitG rfl rfl (fun h => ?_) (fun h => ?_))
    | (apply gateE; first
      | refine Jl.nil (Ej.go ?_ (fun _ _ h => h))
      | (refine Jl.nil (Ej.back (fun _ _ h => h) (by repeat (first | exact .refl | apply DropTo.tail)) ?_); repeat (first | exact trivial | refine ⟨rfl, ?_⟩)))
    | (apply gateC; first
      | refine Cj.block rfl ?_
      | refine Cj.condF rfl rfl (Cj.skip rfl (Ej.go ?_ (fun _ _ h => h)))
      | (refine Cj.condF rfl rfl (Cj.skip rfl (Ej.back (fun _ _ h => h) (by repeat (first | exact .refl | apply DropTo.tail)) ?_)); repeat (first | exact trivial | refine ⟨rfl, ?_⟩))
      | refine Cj.condF rfl rfl ?_
      | refine Cj.condT rfl rfl ?_
      | refine Cj.exit rfl (Ej.go ?_ (fun _ _ h => h))
      | refine Cj.cond rfl rfl (fun h => ?_) (fun h => ?_)
      | refine Cj.skip rfl (Ej.go ?_ (fun _ _ h => h))
      | (refine Cj.skip rfl (Ej.back (fun _ _ h => h) (by repeat (first | exact .refl | apply DropTo.tail)) ?_); repeat (first | exact trivial | refine ⟨rfl, ?_⟩))
      | refine Cj.seq rfl ?_
      | refine Cj.region rfl ?_))
      have eN : (s ++ letT x.f0) = desT xs (i + 1) := by rw [eT, if_neg hp]; exact eq0 _ h1 h6 h9
      clear sl hss 
      generalize (s ++ letT x.f0) = nw at eN ⊢
      refine Jl.nil (Ej.cutP (ι := Nat × ByteArray) _ _ _ _ (fun _ _ h => h) (i + 1, nw) ⟨⟨by dsimp only; omega, eN⟩, by dsimp only; omega⟩ ⟨rfl, rfl, rfl, trivial⟩ (by repeat (first | exact .nil | refine Pick.cons (by repeat (first | exact .z | apply OutAt.s)) ?_)) (fun p hp => hp))
  · obtain rfl : i = xs.length := by omega
    repeat (first
    | (apply gateO; first
      | refine Jl.yd (Y.mv rfl rfl) rfl rfl rfl ?_
      | refine Jl.yd (Y.asg rfl rfl) rfl rfl rfl ?_
      | refine Jl.yd (Y.ext rfl rfl rfl) rfl rfl rfl ?_
      | refine Jl.yd (Y.pickT rfl rfl rfl) rfl rfl rfl ?_
      | refine Jl.yd (Y.pickF rfl rfl rfl) rfl rfl rfl ?_
      | refine Jl.off rfl rfl rfl ?_
      | refine Jl.yd (Y.cmpF rfl rfl rfl rfl (by omega)) rfl rfl rfl ?_
      | refine Jl.yd (Y.cmpT rfl rfl rfl rfl (by omega)) rfl rfl rfl ?_
      | refine Jl.yd (Y.neqB rfl rfl rfl Tryd.underlying4) rfl rfl rfl ?_
      | refine Jl.yd (Y.cmp rfl rfl rfl rfl) rfl rfl rfl ?_
      | refine Jl.yd (Y.not rfl rfl) rfl rfl rfl ?_
      | refine Jl.yd (Y.arithN rfl rfl rfl rfl (by omega)) rfl rfl rfl ?_
      | refine Jl.yd (Y.arith64 rfl rfl rfl rfl) rfl rfl rfl ?_
      | refine Jl.yd (Y.lenS Tryd.underlying22 rfl rfl rfl) rfl rfl rfl ?_
      | refine Jl.splitG rfl rfl (fun h => ?_) (fun h => ?_))
    | (apply gateE; first
      | refine Jl.nil (Ej.go ?_ (fun _ _ h => h))
      | (refine Jl.nil (Ej.back (fun _ _ h => h) (by repeat (first | exact .refl | apply DropTo.tail)) ?_); repeat (first | exact trivial | refine ⟨rfl, ?_⟩)))
    | (apply gateC; first
      | refine Cj.block rfl ?_
      | refine Cj.ret rfl (Ej.out1 (P := Tryd.prog) (fn := Tryd.f17) (R := Rr) (fun _ _ h => h) rfl rfl (fun w' hW => ?_))
      | refine Cj.condF rfl rfl (Cj.skip rfl (Ej.go ?_ (fun _ _ h => h)))
      | (refine Cj.condF rfl rfl (Cj.skip rfl (Ej.back (fun _ _ h => h) (by repeat (first | exact .refl | apply DropTo.tail)) ?_)); repeat (first | exact trivial | refine ⟨rfl, ?_⟩))
      | refine Cj.condF rfl rfl ?_
      | refine Cj.condT rfl rfl ?_
      | refine Cj.exit rfl (Ej.go ?_ (fun _ _ h => h))
      | refine Cj.cond rfl rfl (fun h => ?_) (fun h => ?_)
      | refine Cj.skip rfl (Ej.go ?_ (fun _ _ h => h))
      | (refine Cj.skip rfl (Ej.back (fun _ _ h => h) (by repeat (first | exact .refl | apply DropTo.tail)) ?_); repeat (first | exact trivial | refine ⟨rfl, ?_⟩))
      | refine Cj.seq rfl ?_
      | refine Cj.region rfl ?_))
    exact ⟨by rw [hs], hW.below⟩
set_option maxHeartbeats 4000000 in
theorem sNo (A0 : Option Addr) (c0 : Nat) (xs : List S37) (kg : Nat) (hg : spec_l9Good.f kg xs = some false) (w : World) (hr0 : Kd.C k37 w A0 xs.length xs) (hc0 : xs.length ≤ c0) : Calls Tryd.prog 11 #[.slice A0 xs.length c0] w fun e w' => e = .returned (.tuple #[.string ⟨#[]⟩, .bool false]) ∧ Below w.heap.size w w' := by
  let Rr : Ending → World → Prop := fun e w' => e = .returned (.tuple #[.string ⟨#[]⟩, .bool false]) ∧ Below w.heap.size w w'
  refine enterW (args := [.slice A0 xs.length c0]) [(fun w => Kd.C k37 w A0 xs.length xs)] (fun p hp W hb => by
    rcases List.mem_cons.1 hp with rfl | hp
    · exact Kd.C_below hr0 hb
    · cases hp) Tryd.func11 rfl rfl ?_
  show Cj Tryd.prog _ _ _ (bodyPost Tryd.prog Tryd.f11 Rr) _ _ _
  repeat (first
    | (apply gateO; first
      | refine Jl.yd (Y.mv rfl rfl) rfl rfl rfl ?_
      | refine Jl.yd (Y.asg rfl rfl) rfl rfl rfl ?_
      | refine Jl.yd (Y.ext rfl rfl rfl) rfl rfl rfl ?_
      | refine Jl.yd (Y.pickT rfl rfl rfl) rfl rfl rfl ?_
      | refine Jl.yd (Y.pickF rfl rfl rfl) rfl rfl rfl ?_
      | refine Jl.off rfl rfl rfl ?_
      | refine Jl.yd (Y.cmpF rfl rfl rfl rfl (by omega)) rfl rfl rfl ?_
      | refine Jl.yd (Y.cmpT rfl rfl rfl rfl (by omega)) rfl rfl rfl ?_
      | refine Jl.yd (Y.neqB rfl rfl rfl Tryd.underlying4) rfl rfl rfl ?_
      | refine Jl.yd (Y.cmp rfl rfl rfl rfl) rfl rfl rfl ?_
      | refine Jl.yd (Y.not rfl rfl) rfl rfl rfl ?_
      | refine Jl.yd (Y.arithN rfl rfl rfl rfl (by omega)) rfl rfl rfl ?_
      | refine Jl.yd (Y.arith64 rfl rfl rfl rfl) rfl rfl rfl ?_
      | refine Jl.call1 (v := .bool false) rfl rfl rfl rfl en16 rfl (fun w hW => by with_reducible exact spec_l9Good.calls kg _ _ xs false w (hW.fact (by repeat (first | exact memH | refine memT ?_))) hc0 hg) ?_
      | refine Jl.splitG rfl rfl (fun h => ?_) (fun h => ?_))
    | (apply gateE; first
      | refine Jl.nil (Ej.go ?_ (fun _ _ h => h))
      | (refine Jl.nil (Ej.back (fun _ _ h => h) (by repeat (first | exact .refl | apply DropTo.tail)) ?_); repeat (first | exact trivial | refine ⟨rfl, ?_⟩)))
    | (apply gateC; first
      | refine Cj.ret rfl (Ej.out2 (P := Tryd.prog) (fn := Tryd.f11) (R := Rr) (fun _ _ h => h) rfl rfl rfl (fun w' hW => ?_))
      | refine Cj.condF rfl rfl (Cj.skip rfl (Ej.go ?_ (fun _ _ h => h)))
      | (refine Cj.condF rfl rfl (Cj.skip rfl (Ej.back (fun _ _ h => h) (by repeat (first | exact .refl | apply DropTo.tail)) ?_)); repeat (first | exact trivial | refine ⟨rfl, ?_⟩))
      | refine Cj.condF rfl rfl ?_
      | refine Cj.condT rfl rfl ?_
      | refine Cj.exit rfl (Ej.go ?_ (fun _ _ h => h))
      | refine Cj.cond rfl rfl (fun h => ?_) (fun h => ?_)
      | refine Cj.skip rfl (Ej.go ?_ (fun _ _ h => h))
      | (refine Cj.skip rfl (Ej.back (fun _ _ h => h) (by repeat (first | exact .refl | apply DropTo.tail)) ?_); repeat (first | exact trivial | refine ⟨rfl, ?_⟩))
      | refine Cj.seq rfl ?_
      | refine Cj.region rfl ?_))
  exact ⟨rfl, hW.below⟩
set_option maxHeartbeats 4000000 in
theorem sYes (A0 : Option Addr) (c0 : Nat) (xs : List S37) (kg : Nat) (hg : spec_l9Good.f kg xs = some true) (hgood : goodD xs = true) (w : World) (hr0 : Kd.C k37 w A0 xs.length xs) (hc0 : xs.length ≤ c0) : Calls Tryd.prog 11 #[.slice A0 xs.length c0] w fun e w' => e = .returned (.tuple #[.string (desT xs xs.length), .bool true]) ∧ Below w.heap.size w w' := by
  let Rr : Ending → World → Prop := fun e w' => e = .returned (.tuple #[.string (desT xs xs.length), .bool true]) ∧ Below w.heap.size w w'
  refine enterW (args := [.slice A0 xs.length c0]) [(fun w => Kd.C k37 w A0 xs.length xs)] (fun p hp W hb => by
    rcases List.mem_cons.1 hp with rfl | hp
    · exact Kd.C_below hr0 hb
    · cases hp) Tryd.func11 rfl rfl ?_
  show Cj Tryd.prog _ _ _ (bodyPost Tryd.prog Tryd.f11 Rr) _ _ _
  repeat (first
    | (apply gateO; first
      | refine Jl.yd (Y.mv rfl rfl) rfl rfl rfl ?_
      | refine Jl.yd (Y.asg rfl rfl) rfl rfl rfl ?_
      | refine Jl.yd (Y.ext rfl rfl rfl) rfl rfl rfl ?_
      | refine Jl.yd (Y.pickT rfl rfl rfl) rfl rfl rfl ?_
      | refine Jl.yd (Y.pickF rfl rfl rfl) rfl rfl rfl ?_
      | refine Jl.off rfl rfl rfl ?_
      | refine Jl.yd (Y.cmpF rfl rfl rfl rfl (by omega)) rfl rfl rfl ?_
      | refine Jl.yd (Y.cmpT rfl rfl rfl rfl (by omega)) rfl rfl rfl ?_
      | refine Jl.yd (Y.neqB rfl rfl rfl Tryd.underlying4) rfl rfl rfl ?_
      | refine Jl.yd (Y.cmp rfl rfl rfl rfl) rfl rfl rfl ?_
      | refine Jl.yd (Y.not rfl rfl) rfl rfl rfl ?_
      | refine Jl.yd (Y.arithN rfl rfl rfl rfl (by omega)) rfl rfl rfl ?_
      | refine Jl.yd (Y.arith64 rfl rfl rfl rfl) rfl rfl rfl ?_
      | refine Jl.call1 (v := .bool true) rfl rfl rfl rfl en16 rfl (fun w hW => by with_reducible exact spec_l9Good.calls kg _ _ xs true w (hW.fact (by repeat (first | exact memH | refine memT ?_))) hc0 hg) ?_
      | refine Jl.call1 (v := .string (desT xs xs.length)) rfl rfl rfl rfl en17 rfl (fun w hW => by with_reducible exact sText _ _ xs hgood w (hW.fact (by repeat (first | exact memH | refine memT ?_))) hc0) ?_
      | refine Jl.splitG rfl rfl (fun h => ?_) (fun h => ?_))
    | (apply gateE; first
      | refine Jl.nil (Ej.go ?_ (fun _ _ h => h))
      | (refine Jl.nil (Ej.back (fun _ _ h => h) (by repeat (first | exact .refl | apply DropTo.tail)) ?_); repeat (first | exact trivial | refine ⟨rfl, ?_⟩)))
    | (apply gateC; first
      | refine Cj.ret rfl (Ej.out2 (P := Tryd.prog) (fn := Tryd.f11) (R := Rr) (fun _ _ h => h) rfl rfl rfl (fun w' hW => ?_))
      | refine Cj.condF rfl rfl (Cj.skip rfl (Ej.go ?_ (fun _ _ h => h)))
      | (refine Cj.condF rfl rfl (Cj.skip rfl (Ej.back (fun _ _ h => h) (by repeat (first | exact .refl | apply DropTo.tail)) ?_)); repeat (first | exact trivial | refine ⟨rfl, ?_⟩))
      | refine Cj.condF rfl rfl ?_
      | refine Cj.condT rfl rfl ?_
      | refine Cj.exit rfl (Ej.go ?_ (fun _ _ h => h))
      | refine Cj.cond rfl rfl (fun h => ?_) (fun h => ?_)
      | refine Cj.skip rfl (Ej.go ?_ (fun _ _ h => h))
      | (refine Cj.skip rfl (Ej.back (fun _ _ h => h) (by repeat (first | exact .refl | apply DropTo.tail)) ?_); repeat (first | exact trivial | refine ⟨rfl, ?_⟩))
      | refine Cj.seq rfl ?_
      | refine Cj.region rfl ?_))
  exact ⟨rfl, hW.below⟩
set_option maxHeartbeats 4000000 in
theorem iNo (A0 : Option Addr) (c0 : Nat) (xs : List S37) (kg : Nat) (hg : impl_IsProgram.f kg xs = some false) (w : World) (htab : Lib.TabIs Tryd.prog w tabName .u64 Lib.pow10Tab) (hr0 : Kd.C k37 w A0 xs.length xs) (hc0 : xs.length ≤ c0) : Calls Tryd.prog 13 #[.slice A0 xs.length c0] w fun e w' => e = .returned (.tuple #[.string ⟨#[]⟩, .bool false]) ∧ Below w.heap.size w w' := by
  let Rr : Ending → World → Prop := fun e w' => e = .returned (.tuple #[.string ⟨#[]⟩, .bool false]) ∧ Below w.heap.size w w'
  refine enterW (args := [.slice A0 xs.length c0]) [(fun w => Kd.C k37 w A0 xs.length xs), (fun W => Lib.TabIs Tryd.prog W tabName .u64 Lib.pow10Tab)] (fun p hp W hb => by
    rcases List.mem_cons.1 hp with rfl | hp
    · exact Kd.C_below hr0 hb
    · rw [List.mem_singleton.1 hp]; exact tab_below htab hb) Tryd.func13 rfl rfl ?_
  show Cj Tryd.prog _ _ _ (bodyPost Tryd.prog Tryd.f13 Rr) _ _ _
  repeat (first
    | (apply gateO; first
      | refine Jl.yd (Y.mv rfl rfl) rfl rfl rfl ?_
      | refine Jl.yd (Y.asg rfl rfl) rfl rfl rfl ?_
      | refine Jl.yd (Y.ext rfl rfl rfl) rfl rfl rfl ?_
      | refine Jl.yd (Y.pickT rfl rfl rfl) rfl rfl rfl ?_
      | refine Jl.yd (Y.pickF rfl rfl rfl) rfl rfl rfl ?_
      | refine Jl.off rfl rfl rfl ?_
      | refine Jl.yd (Y.cmpF rfl rfl rfl rfl (by omega)) rfl rfl rfl ?_
      | refine Jl.yd (Y.cmpT rfl rfl rfl rfl (by omega)) rfl rfl rfl ?_
      | refine Jl.yd (Y.neqB rfl rfl rfl Tryd.underlying4) rfl rfl rfl ?_
      | refine Jl.yd (Y.cmp rfl rfl rfl rfl) rfl rfl rfl ?_
      | refine Jl.yd (Y.not rfl rfl) rfl rfl rfl ?_
      | refine Jl.yd (Y.arithN rfl rfl rfl rfl (by omega)) rfl rfl rfl ?_
      | refine Jl.yd (Y.arith64 rfl rfl rfl rfl) rfl rfl rfl ?_
      | refine Jl.call1 (v := .bool false) rfl rfl rfl rfl en22 rfl (fun w hW => by with_reducible exact impl_IsProgram.calls kg _ _ xs false w (hW.fact (by repeat (first | exact memH | refine memT ?_))) hc0 hg) ?_
      | refine Jl.splitG rfl rfl (fun h => ?_) (fun h => ?_))
    | (apply gateE; first
      | refine Jl.nil (Ej.go ?_ (fun _ _ h => h))
      | (refine Jl.nil (Ej.back (fun _ _ h => h) (by repeat (first | exact .refl | apply DropTo.tail)) ?_); repeat (first | exact trivial | refine ⟨rfl, ?_⟩)))
    | (apply gateC; first
      | refine Cj.ret rfl (Ej.out2 (P := Tryd.prog) (fn := Tryd.f13) (R := Rr) (fun _ _ h => h) rfl rfl rfl (fun w' hW => ?_))
      | refine Cj.condF rfl rfl (Cj.skip rfl (Ej.go ?_ (fun _ _ h => h)))
      | (refine Cj.condF rfl rfl (Cj.skip rfl (Ej.back (fun _ _ h => h) (by repeat (first | exact .refl | apply DropTo.tail)) ?_)); repeat (first | exact trivial | refine ⟨rfl, ?_⟩))
      | refine Cj.condF rfl rfl ?_
      | refine Cj.condT rfl rfl ?_
      | refine Cj.exit rfl (Ej.go ?_ (fun _ _ h => h))
      | refine Cj.cond rfl rfl (fun h => ?_) (fun h => ?_)
      | refine Cj.skip rfl (Ej.go ?_ (fun _ _ h => h))
      | (refine Cj.skip rfl (Ej.back (fun _ _ h => h) (by repeat (first | exact .refl | apply DropTo.tail)) ?_); repeat (first | exact trivial | refine ⟨rfl, ?_⟩))
      | refine Cj.seq rfl ?_
      | refine Cj.region rfl ?_))
  exact ⟨rfl, hW.below⟩
theorem sliStr {P : Program} {N : Nat} {B : Base} {L : Sl} {its : List Go.Proofs.YtacimfnaacdobaaDoorW.SL.Item} {ps : List (World → Prop)} {o : Oper} {T : Nat} {x y z : Operand} {b : ByteArray} {lo hi : Int} (hu : P.underlying T = some .string) (hop : o.op = .slice T x (some y) (some z) none) (hx : ev L x = some (.string b)) (hy : ev L y = some (.int .i64 lo)) (hz : ev L z = some (.int .i64 hi)) (h0 : 0 ≤ lo) (h1 : lo ≤ hi) (h2 : hi ≤ (b.size : Int)) : Yd P N B o (.string (b.extract lo.toNat hi.toNat)) L its ps := .mk <| fun a w hf _ => by
  have eh : (hi.toNat : Int) = hi := Int.toNat_of_nonneg (by omega)
  unfold execOp; rw [hop]
  simp [Instr.sliceAt, Instr.slice, Instr.sliceBounds, run_sliceBound, hf.ev hx, hf.ev hy, hf.ev hz, run_underlying hu, h0, h1, h2, eh, (by omega : 0 ≤ hi)]
theorem join_ (sep : ByteArray) (ws : List ByteArray) (A : Option Addr) (c : Nat) (w : World) (h : ∃ S, (Go.Proofs.YtacimfnaacdobaaDoorW.SL.Item.row Kd.string 9 0 (.slice A ws.length c) ws).p w S) (hn : ws.length ≤ 1048576) (hl : (joinB ws sep).size ≤ 1048576) : Calls Tryd.prog 25 #[.slice A ws.length c, .string sep] w fun e w' => e = .returned (.string (joinB ws sep)) ∧ Below w.heap.size w w' := by
  obtain ⟨S, hR, hlt⟩ := h
  obtain ⟨A', c', e, hc', hC⟩ := Kd.R_reads hR
  injection e with e1 e2 e3
  subst e1; subst e3
  rcases Nat.eq_zero_or_pos ws.length with h0 | h0
  · obtain rfl := List.length_eq_zero_iff.1 h0
    refine (Tryd.strings_Join_none A c sep w).mono ?_
    rintro e w' ⟨rfl, rfl⟩
    exact ⟨rfl, Below.refl _ _⟩
  · obtain ⟨g, rfl, hg⟩ : ∃ g, A = some ⟨g, 0, none⟩ ∧ S g := by
      obtain ⟨hown, inner, ho, _⟩ := hR
      rcases ho.2 with ⟨_, h1⟩ | ⟨g, cap, cur, h1, _⟩
      · omega
      · injection h1 with h1
        exact ⟨g, h1, hown g (by rw [h1]; rfl)⟩
    have hC2 := hC
    refine Tryd.strings_Join g 0 c ws sep w (fun j x hx => ?_) (hlt g hg) (by omega) hc' (by rw [joinB_size] at hl; omega)
    obtain ⟨ad, ha, hcell⟩ := hC2.2.2 h0
    injection ha with ha
    subst ha
    obtain ⟨cs, c1, c2, c3⟩ := hcell j x hx
    have c2' : cs = [.string x] := c2
    subst c2'
    have := c3 0 _ rfl
    have hsz : (Kd.string : Kd ByteArray).sz = 1 := rfl
    rw [hsz] at this
    have e : (⟨g, 0, none⟩ : Addr).add (j * 1 + 0) = ⟨g, 0 + j, none⟩ := by
      rw [Nat.mul_one, Nat.add_zero, Nat.zero_add]
      unfold Addr.add
      split <;> simp_all
    rw [← e]
    exact this
set_option maxHeartbeats 4000000 in
theorem iYes (A0 : Option Addr) (c0 : Nat) (xs : List S37) (kg : Nat) (hg : impl_IsProgram.f kg xs = some true) (hgood : goodD xs = true) (w : World) (htab : Lib.TabIs Tryd.prog w tabName .u64 Lib.pow10Tab) (hr0 : Kd.C k37 w A0 xs.length xs) (hc0 : xs.length ≤ c0) : Calls Tryd.prog 13 #[.slice A0 xs.length c0] w fun e w' => e = .returned (.tuple #[.string (desT xs xs.length), .bool true]) ∧ Below w.heap.size w w' := by
  let Rr : Ending → World → Prop := fun e w' => e = .returned (.tuple #[.string (desT xs xs.length), .bool true]) ∧ Below w.heap.size w w'
  refine enterW (args := [.slice A0 xs.length c0]) [(fun w => Kd.C k37 w A0 xs.length xs), (fun W => Lib.TabIs Tryd.prog W tabName .u64 Lib.pow10Tab)] (fun p hp W hb => by
    rcases List.mem_cons.1 hp with rfl | hp
    · exact Kd.C_below hr0 hb
    · rw [List.mem_singleton.1 hp]; exact tab_below htab hb) Tryd.func13 rfl rfl ?_
  show Cj Tryd.prog _ _ _ (bodyPost Tryd.prog Tryd.f13 Rr) _ _ _
  obtain ⟨hl20, hgo⟩ := goodD_at hgood
  repeat (first
    | (apply gateO; first
      | refine Jl.yd (Y.mv rfl rfl) rfl rfl rfl ?_
      | refine Jl.yd (Y.asg rfl rfl) rfl rfl rfl ?_
      | refine Jl.yd (Y.ext rfl rfl rfl) rfl rfl rfl ?_
      | refine Jl.yd (Y.pickT rfl rfl rfl) rfl rfl rfl ?_
      | refine Jl.yd (Y.pickF rfl rfl rfl) rfl rfl rfl ?_
      | refine Jl.off rfl rfl rfl ?_
      | refine Jl.yd (Y.cmpF rfl rfl rfl rfl (by omega)) rfl rfl rfl ?_
      | refine Jl.yd (Y.cmpT rfl rfl rfl rfl (by omega)) rfl rfl rfl ?_
      | refine Jl.yd (Y.neqB rfl rfl rfl Tryd.underlying4) rfl rfl rfl ?_
      | refine Jl.yd (Y.cmp rfl rfl rfl rfl) rfl rfl rfl ?_
      | refine Jl.yd (Y.not rfl rfl) rfl rfl rfl ?_
      | refine Jl.yd (Y.arithN rfl rfl rfl rfl (by omega)) rfl rfl rfl ?_
      | refine Jl.yd (Y.arith64 rfl rfl rfl rfl) rfl rfl rfl ?_
      | refine Jl.yd (Y.lenS Tryd.underlying22 rfl rfl rfl) rfl rfl rfl ?_
      | refine Jl.call1 (v := .bool true) rfl rfl rfl rfl en22 rfl (fun w hW => by with_reducible exact impl_IsProgram.calls kg _ _ xs true w (hW.fact (by repeat (first | exact memH | refine memT ?_))) hc0 hg) ?_
      | refine Jl.lit0 Kd.string rfl rfl rfl rfl el34 (fun gr => ?_)
      | refine Jl.splitG rfl rfl (fun h => ?_) (fun h => ?_))
    | (apply gateE; first
      | refine Jl.nil (Ej.go ?_ (fun _ _ h => h))
      | (refine Jl.nil (Ej.back (fun _ _ h => h) (by repeat (first | exact .refl | apply DropTo.tail)) ?_); repeat (first | exact trivial | refine ⟨rfl, ?_⟩)))
    | (apply gateC; first
      | refine Cj.condF rfl rfl (Cj.skip rfl (Ej.go ?_ (fun _ _ h => h)))
      | (refine Cj.condF rfl rfl (Cj.skip rfl (Ej.back (fun _ _ h => h) (by repeat (first | exact .refl | apply DropTo.tail)) ?_)); repeat (first | exact trivial | refine ⟨rfl, ?_⟩))
      | refine Cj.condF rfl rfl ?_
      | refine Cj.condT rfl rfl ?_
      | refine Cj.exit rfl (Ej.go ?_ (fun _ _ h => h))
      | refine Cj.cond rfl rfl (fun h => ?_) (fun h => ?_)
      | refine Cj.skip rfl (Ej.go ?_ (fun _ _ h => h))
      | (refine Cj.skip rfl (Ej.back (fun _ _ h => h) (by repeat (first | exact .refl | apply DropTo.tail)) ?_); repeat (first | exact trivial | refine ⟨rfl, ?_⟩))
      | refine Cj.seq rfl ?_
      | refine Cj.region rfl ?_))
  refine Cj.block rfl ?_
  refine Cj.loopP (ι := Nat × List ByteArray × Option Addr × Nat) (fun q => q.1 ≤ xs.length ∧ q.2.1 = (xs.take q.1).map wordT) (fun q => [(4, .slice q.2.2.1 q.2.1.length q.2.2.2), (14, .slice A0 xs.length c0), (15, .int .i64 (xs.length : Int)), (16, .int .i64 (q.1 : Int))])
    (fun q => [.row Kd.string 9 0 (.slice q.2.2.1 q.2.1.length q.2.2.2) q.2.1]) (fun _ => [(fun w => Kd.C k37 w A0 xs.length xs), (fun W => Lib.TabIs Tryd.prog W tabName .u64 Lib.pow10Tab)]) (fun q => xs.length - q.1) rfl (0, [], some ⟨gr, 0, none⟩, 0) ⟨Nat.zero_le _, rfl⟩ ⟨rfl, rfl, rfl, rfl, trivial⟩ (by repeat (first | exact .nil | refine Pick.cons (by repeat (first | exact .z | apply OutAt.s)) ?_)) (fun p hp => hp) (fun q hi => ?_)
  obtain ⟨i, ws, Aw, cw⟩ := q
  dsimp only at hi ⊢
  obtain ⟨hi, hws⟩ := hi
  have hwl : ws.length = i := by rw [hws, List.length_map, List.length_take]; omega
  by_cases hlt : i < xs.length
  · skip
    obtain ⟨ad0, rfl⟩ : ∃ ad, A0 = some ad := by
      obtain ⟨ad, e, _⟩ := hr0.2.2 (by omega)
      exact ⟨ad, e⟩
    obtain ⟨x, hx⟩ : ∃ x, nth xs i z37 = x := ⟨_, rfl⟩
    have hus : ([.int .i64 (xs.getD ((i : Int)).toNat z37).f0, .int .i64 (xs.getD ((i : Int)).toNat z37).f1, .int .i64 (xs.getD ((i : Int)).toNat z37).f2, .int .i64 (xs.getD ((i : Int)).toNat z37).f3] : List Value) = [.int .i64 x.f0, .int .i64 x.f1, .int .i64 x.f2, .int .i64 x.f3] := by
      rw [Int.toNat_natCast]; unfold nth at hx; rw [hx]
    have hok := hgo i hlt
    rw [hx] at hok
    obtain ⟨hk, hk1, hk6, hk9⟩ := okR_at hok
    have hnu : impl_Design_numbers.f x.f0 x.f1 x.f2 x.f3 = some (numsOf x) := by
      unfold impl_Design_numbers.f numsOf
      repeat' split
      all_goals rfl
    have hnl := nums_len x
    have hnb := nums_b hok
    have hwn : ws ++ [wordT x] = (xs.take (i + 1)).map wordT := by
      rw [hws, List.take_add_one, List.map_append, List.getElem?_eq_getElem hlt, ← hx, nth_get hlt]; rfl
    repeat (first
    | (apply gateO; first
      | refine Jl.yd (Y.mv rfl rfl) rfl rfl rfl ?_
      | refine Jl.yd (Y.asg rfl rfl) rfl rfl rfl ?_
      | refine Jl.yd (Y.ext rfl rfl rfl) rfl rfl rfl ?_
      | refine Jl.yd (Y.pickT rfl rfl rfl) rfl rfl rfl ?_
      | refine Jl.yd (Y.pickF rfl rfl rfl) rfl rfl rfl ?_
      | refine Jl.off rfl rfl rfl ?_
      | refine Jl.yd (Y.cmpF rfl rfl rfl rfl (by omega)) rfl rfl rfl ?_
      | refine Jl.yd (Y.cmpT rfl rfl rfl rfl (by omega)) rfl rfl rfl ?_
      | refine Jl.yd (Y.neqB rfl rfl rfl Tryd.underlying4) rfl rfl rfl ?_
      | refine Jl.yd (Y.cmp rfl rfl rfl rfl) rfl rfl rfl ?_
      | refine Jl.yd (Y.not rfl rfl) rfl rfl rfl ?_
      | refine Jl.yd (Y.arithN rfl rfl rfl rfl (by omega)) rfl rfl rfl ?_
      | refine Jl.yd (Y.arith64 rfl rfl rfl rfl) rfl rfl rfl ?_
      | refine Jl.yd (Y.loadA rfl rfl agg37 (by repeat (first | exact .head _ | refine .tail _ ?_)) (by rfl)) rfl rfl rfl ?_
      | refine Jl.alloc rfl rfl rfl rfl zero37 (fun g => ?_)
      | refine Jl.storeA rfl rfl rfl rfl rfl sz37 (by repeat (first | exact .z | apply SetAt.s)) (by rfl) (by rfl) ?_
      | refine Jl.yd (Y.lenS Tryd.underlying22 rfl rfl rfl) rfl rfl rfl ?_
      | refine Jl.yd (Y.lenS Tryd.underlying47 rfl rfl rfl) rfl rfl rfl ?_
      | refine Jl.yd (Y.idx rfl rfl rfl el22 (by omega) (by omega)) rfl rfl rfl ?_
      | refine Jl.yd (Y.loadK z37 [.int .i64 x.f0, .int .i64 x.f1, .int .i64 x.f2, .int .i64 x.f3] rfl rfl agg37 (by repeat (first | exact .head _ | refine .tail _ ?_)) (i : Int) (by omega) (by omega) (by rfl) (fun w cs h => (k37_open h).trans hus) (by rfl)) rfl rfl rfl ?_
      | refine Jl.lit0 Kd.string rfl rfl rfl rfl el34 (fun gr => ?_)
      | refine Jl.callR 0 (fun v => v) (xs := numsOf x) rfl rfl rfl rfl en23 rfl (fun w hW => by with_reducible exact impl_Design_numbers.calls x.f0 x.f1 x.f2 x.f3 (numsOf x) w hnu) (fun An cn hn => ?_)
      | refine Jl.splitG rfl rfl (fun h => ?_) (fun h => ?_))
    | (apply gateE; first
      | refine Jl.nil (Ej.go ?_ (fun _ _ h => h))
      | (refine Jl.nil (Ej.back (fun _ _ h => h) (by repeat (first | exact .refl | apply DropTo.tail)) ?_); repeat (first | exact trivial | refine ⟨rfl, ?_⟩)))
    | (apply gateC; first
      | refine Cj.block rfl ?_
      | refine Cj.condF rfl rfl (Cj.skip rfl (Ej.go ?_ (fun _ _ h => h)))
      | (refine Cj.condF rfl rfl (Cj.skip rfl (Ej.back (fun _ _ h => h) (by repeat (first | exact .refl | apply DropTo.tail)) ?_)); repeat (first | exact trivial | refine ⟨rfl, ?_⟩))
      | refine Cj.condF rfl rfl ?_
      | refine Cj.condT rfl rfl ?_
      | refine Cj.exit rfl (Ej.go ?_ (fun _ _ h => h))
      | refine Cj.cond rfl rfl (fun h => ?_) (fun h => ?_)
      | refine Cj.skip rfl (Ej.go ?_ (fun _ _ h => h))
      | (refine Cj.skip rfl (Ej.back (fun _ _ h => h) (by repeat (first | exact .refl | apply DropTo.tail)) ?_); repeat (first | exact trivial | refine ⟨rfl, ?_⟩))
      | refine Cj.seq rfl ?_
      | refine Cj.region rfl ?_))
    refine Cj.ws (ι := Unit) (fun _ => (numsOf x).length = 0 ∨ ∃ ad, An = some ad) (fun _ => [.row Kd.string 9 0 (.slice (some ⟨gr, 0, none⟩) ([] : List ByteArray).length 0) ([] : List ByteArray), .box g 37 [.int .i64 x.f0, .int .i64 x.f1, .int .i64 x.f2, .int .i64 x.f3], .row Kd.string 9 0 (.slice Aw ws.length cw) ws]) (fun _ => [(fun W => (Kd.int .i64).C W An (numsOf x).length (numsOf x)), (fun w => Kd.C k37 w (some ad0) xs.length xs), (fun W => Lib.TabIs Tryd.prog W tabName .u64 Lib.pow10Tab)]) (fun w' hW => by
      have hC : (Kd.int .i64).C w' An (numsOf x).length (numsOf x) := hW.rowC (by repeat (first | exact memH | refine memT ?_))
      refine ⟨(), ?_, hW.freeze (n := 0) rfl (fun W S h => by
        obtain ⟨A2, c2, e, _, h2⟩ := Kd.R_reads h.1
        injection e with e1 e2 e3
        subst e1
        exact h2)⟩
      rcases Nat.eq_zero_or_pos (numsOf x).length with h0 | h0
      · exact .inl h0
      · obtain ⟨ad, e, _⟩ := hC.2.2 h0
        exact .inr ⟨ad, e⟩) (fun _ hAn => ?_)
    refine Cj.loopP (ι := Nat × List ByteArray × Option Addr × Nat) (fun q => q.1 ≤ (numsOf x).length ∧ q.2.1 = ((numsOf x).take q.1).map dec) (fun q => [(4, .slice Aw ws.length cw), (6, .pointer (some ⟨g, 0, none⟩)), (7, .slice q.2.2.1 q.2.1.length q.2.2.2), (14, .slice (some ad0) xs.length c0), (15, .int .i64 (xs.length : Int)), (16, .int .i64 (i : Int)), (22, .slice An (numsOf x).length cn), (23, .int .i64 ((numsOf x).length : Int)), (24, .int .i64 (q.1 : Int))])
      (fun q => [.row Kd.string 9 0 (.slice q.2.2.1 q.2.1.length q.2.2.2) q.2.1, .box g 37 [.int .i64 x.f0, .int .i64 x.f1, .int .i64 x.f2, .int .i64 x.f3], .row Kd.string 9 0 (.slice Aw ws.length cw) ws]) (fun _ => [(fun W => (Kd.int .i64).C W An (numsOf x).length (numsOf x)), (fun w => Kd.C k37 w (some ad0) xs.length xs), (fun W => Lib.TabIs Tryd.prog W tabName .u64 Lib.pow10Tab)]) (fun q => (numsOf x).length - q.1) rfl (0, [], some ⟨gr, 0, none⟩, 0) ⟨Nat.zero_le _, rfl⟩ ⟨rfl, rfl, rfl, rfl, rfl, rfl, rfl, rfl, rfl, trivial⟩ (by repeat (first | exact .nil | refine Pick.cons (by repeat (first | exact .z | apply OutAt.s)) ?_)) (fun p hp => hp) (fun q hj => ?_)
    obtain ⟨j, acc, Aj, cj⟩ := q
    dsimp only at hj ⊢
    obtain ⟨hj, hac⟩ := hj
    have hal : acc.length = j := by rw [hac, List.length_map, List.length_take]; omega
    by_cases hjl : j < (numsOf x).length
    · obtain ⟨adn, rfl⟩ := hAn.resolve_left (by omega)
      have hmem : (numsOf x).getD ((j : Int)).toNat 0 ∈ numsOf x := by
        rw [Int.toNat_natCast, List.getD_eq_getElem?_getD, List.getElem?_eq_getElem hjl]; exact List.getElem_mem hjl
      have hN : acc ++ [dec ((numsOf x).getD ((j : Int)).toNat 0)] = ((numsOf x).take (j + 1)).map dec := by
        rw [hac, List.take_add_one, List.map_append, List.getElem?_eq_getElem hjl, Int.toNat_natCast, List.getD_eq_getElem?_getD, List.getElem?_eq_getElem hjl]; rfl
      obtain ⟨hd0, hd1⟩ := hnb _ hmem
      replace hd0 : -9223372036854775808 ≤ (numsOf x).getD ((j : Int)).toNat 0 := by omega
      replace hd1 : (numsOf x).getD ((j : Int)).toNat 0 ≤ 9223372036854775807 := by omega
      repeat (first
    | (apply gateO; first
      | refine Jl.yd (Y.mv rfl rfl) rfl rfl rfl ?_
      | refine Jl.yd (Y.asg rfl rfl) rfl rfl rfl ?_
      | refine Jl.yd (Y.ext rfl rfl rfl) rfl rfl rfl ?_
      | refine Jl.yd (Y.pickT rfl rfl rfl) rfl rfl rfl ?_
      | refine Jl.yd (Y.pickF rfl rfl rfl) rfl rfl rfl ?_
      | refine Jl.off rfl rfl rfl ?_
      | refine Jl.yd (Y.cmpF rfl rfl rfl rfl (by omega)) rfl rfl rfl ?_
      | refine Jl.yd (Y.cmpT rfl rfl rfl rfl (by omega)) rfl rfl rfl ?_
      | refine Jl.yd (Y.neqB rfl rfl rfl Tryd.underlying4) rfl rfl rfl ?_
      | refine Jl.yd (Y.cmp rfl rfl rfl rfl) rfl rfl rfl ?_
      | refine Jl.yd (Y.not rfl rfl) rfl rfl rfl ?_
      | refine Jl.yd (Y.arithN rfl rfl rfl rfl (by omega)) rfl rfl rfl ?_
      | refine Jl.yd (Y.arith64 rfl rfl rfl rfl) rfl rfl rfl ?_
      | refine Jl.yd (Y.idx rfl rfl rfl el47 (by omega) (by omega)) rfl rfl rfl ?_
      | refine Jl.yd (Y.loadI rfl rfl sc3 (by repeat (first | exact .head _ | refine .tail _ ?_)) (j : Int) (by omega) (by omega) rfl) rfl rfl rfl ?_
      | refine Jl.call1 (v := .string (dec ((numsOf x).getD ((j : Int)).toNat 0))) rfl rfl rfl rfl en24 rfl (fun w hW => dec_ _ hd0 hd1 w (hW.at 2 rfl)) ?_
      | refine Jl.lit1 rfl rfl rfl rfl rfl el34 zero9 rfl (fun gx => ?_)
      | refine Jl.app (dk := Kd.string) (xs := acc) (dec ((numsOf x).getD ((j : Int)).toNat 0)) (fun _ => False) rfl rfl rfl rfl rfl rfl ap34 (by repeat (first | exact .head _ | refine .tail _ ?_)) rfl (fun w => rfl) (fun u hu => by rw [List.mem_singleton.1 hu]; rfl) (by repeat (first | exact .z | apply OutAt.s)) (by omega) (by omega) (fun Ar' cr' hcr' => ?_)
      | refine Jl.splitG rfl rfl (fun h => ?_) (fun h => ?_))
    | (apply gateE; first
      | refine Jl.nil (Ej.go ?_ (fun _ _ h => h))
      | (refine Jl.nil (Ej.back (fun _ _ h => h) (by repeat (first | exact .refl | apply DropTo.tail)) ?_); repeat (first | exact trivial | refine ⟨rfl, ?_⟩)))
    | (apply gateC; first
      | refine Cj.block rfl ?_
      | refine Cj.condF rfl rfl (Cj.skip rfl (Ej.go ?_ (fun _ _ h => h)))
      | (refine Cj.condF rfl rfl (Cj.skip rfl (Ej.back (fun _ _ h => h) (by repeat (first | exact .refl | apply DropTo.tail)) ?_)); repeat (first | exact trivial | refine ⟨rfl, ?_⟩))
      | refine Cj.condF rfl rfl ?_
      | refine Cj.condT rfl rfl ?_
      | refine Cj.exit rfl (Ej.go ?_ (fun _ _ h => h))
      | refine Cj.cond rfl rfl (fun h => ?_) (fun h => ?_)
      | refine Cj.skip rfl (Ej.go ?_ (fun _ _ h => h))
      | (refine Cj.skip rfl (Ej.back (fun _ _ h => h) (by repeat (first | exact .refl | apply DropTo.tail)) ?_); repeat (first | exact trivial | refine ⟨rfl, ?_⟩))
      | refine Cj.seq rfl ?_
      | refine Cj.region rfl ?_))
      refine Jl.nil (Ej.cutP (ι := Nat × List ByteArray × Option Addr × Nat) _ _ _ _ (fun _ _ h => h) (j + 1, acc ++ [dec ((numsOf x).getD ((j : Int)).toNat 0)], Ar', cr') ⟨⟨by dsimp only; omega, hN⟩, by dsimp only; omega⟩ ⟨rfl, rfl, rfl, rfl, rfl, rfl, rfl, rfl, rfl, trivial⟩ (by repeat (first | exact .nil | refine Pick.cons (by repeat (first | exact .z | apply OutAt.s)) ?_)) (fun p hp => hp))
    · obtain rfl : j = (numsOf x).length := by omega
      rw [List.take_length] at hac
      have ha1 : -9223372036854775808 ≤ x.f0 - 1 ∧ x.f0 - 1 ≤ 9223372036854775807 := by omega
      have ha2 : 0 ≤ x.f0 - 1 := by omega
      have ha3 : x.f0 - 1 ≤ x.f0 := by omega
      have hl9 : x.f0 ≤ ((letters : ByteArray).size : Int) := by rw [show (letters : ByteArray).size = 9 from rfl]; omega
      have hw1 : (ws.length + 1) * 16 ≤ 140737488355328 := by omega
      have hw2 : ws.length + 1 ≤ 9223372036854775807 := by omega
      have ha4 : acc.length ≤ 1048576 := by omega
      repeat (first
    | (apply gateO; first
      | refine Jl.yd (Y.mv rfl rfl) rfl rfl rfl ?_
      | refine Jl.yd (Y.asg rfl rfl) rfl rfl rfl ?_
      | refine Jl.yd (Y.ext rfl rfl rfl) rfl rfl rfl ?_
      | refine Jl.yd (Y.pickT rfl rfl rfl) rfl rfl rfl ?_
      | refine Jl.yd (Y.pickF rfl rfl rfl) rfl rfl rfl ?_
      | refine Jl.off rfl rfl rfl ?_
      | refine Jl.yd (Y.cmpF rfl rfl rfl rfl (by omega)) rfl rfl rfl ?_
      | refine Jl.yd (Y.cmpT rfl rfl rfl rfl (by omega)) rfl rfl rfl ?_
      | refine Jl.yd (Y.neqB rfl rfl rfl Tryd.underlying4) rfl rfl rfl ?_
      | refine Jl.yd (Y.cmp rfl rfl rfl rfl) rfl rfl rfl ?_
      | refine Jl.yd (Y.not rfl rfl) rfl rfl rfl ?_
      | refine Jl.yd (Y.arithN rfl rfl rfl rfl (by omega)) rfl rfl rfl ?_
      | refine Jl.yd (Y.arith64 rfl rfl rfl rfl) rfl rfl rfl ?_
      | refine Jl.splitG rfl rfl (fun h => ?_) (fun h => ?_))
    | (apply gateE; first
      | refine Jl.nil (Ej.go ?_ (fun _ _ h => h))
      | (refine Jl.nil (Ej.back (fun _ _ h => h) (by repeat (first | exact .refl | apply DropTo.tail)) ?_); repeat (first | exact trivial | refine ⟨rfl, ?_⟩)))
    | (apply gateC; first
      | refine Cj.block rfl ?_
      | refine Cj.condF rfl rfl (Cj.skip rfl (Ej.go ?_ (fun _ _ h => h)))
      | (refine Cj.condF rfl rfl (Cj.skip rfl (Ej.back (fun _ _ h => h) (by repeat (first | exact .refl | apply DropTo.tail)) ?_)); repeat (first | exact trivial | refine ⟨rfl, ?_⟩))
      | refine Cj.condF rfl rfl ?_
      | refine Cj.condT rfl rfl ?_
      | refine Cj.exit rfl (Ej.go ?_ (fun _ _ h => h))
      | refine Cj.cond rfl rfl (fun h => ?_) (fun h => ?_)
      | refine Cj.skip rfl (Ej.go ?_ (fun _ _ h => h))
      | (refine Cj.skip rfl (Ej.back (fun _ _ h => h) (by repeat (first | exact .refl | apply DropTo.tail)) ?_); repeat (first | exact trivial | refine ⟨rfl, ?_⟩))
      | refine Cj.seq rfl ?_
      | refine Cj.region rfl ?_))
      have hj13 : (joinB acc ⟨#[46]⟩).size ≤ 1048576 := by rw [hac]; exact Nat.le_trans (nums_size hok) (by decide)
      have hcs : (letters.extract ((x.f0 - 1)).toNat (x.f0).toNat).size + (joinB acc ⟨#[46]⟩).size ≤ 9223372036854775807 := by
        have g1 := let_size x.f0 hk
        unfold letT at g1
        exact Nat.le_trans (Nat.add_le_add g1 hj13) (by decide)
      have hwd : letters.extract ((x.f0 - 1)).toNat (x.f0).toNat ++ joinB acc ⟨#[46]⟩ = wordT x := by unfold wordT letT; rw [hac]
      rw [← hwd] at hwn
      refine Cj.regionJ rfl [11] mixed ?_
      refine Jw.take 0 rfl (by decide +kernel) (by intro c a d v w h; cases d <;> exact h) (fun w => Y.mv rfl rfl) rfl rfl rfl ?_
      refine Jw.take 1 rfl (by decide +kernel) (by intro c a d v w h; cases d <;> exact h) (fun w => Y.fld0 rfl rfl fld37_0) rfl rfl rfl ?_
      refine Jw.take 4 rfl (by decide +kernel) (by intro c a d v w h; cases d <;> exact h) (fun w => Y.fld0 rfl rfl fld37_0) rfl rfl rfl ?_
      refine Jw.takeR 2 rfl (by decide +kernel) (by intro c a d v w h; cases d <;> exact h) (Y.load1 rfl rfl sc3 (by repeat (first | exact .head _ | refine .tail _ ?_)) (by rfl)) rfl rfl rfl ?_
      refine Jw.takeR 5 rfl (by decide +kernel) (by intro c a d v w h; cases d <;> exact h) (Y.load1 rfl rfl sc3 (by repeat (first | exact .head _ | refine .tail _ ?_)) (by rfl)) rfl rfl rfl ?_
      refine Jw.take 3 rfl (by decide +kernel) (by intro c a d v w h; cases d <;> exact h) (fun w => Y.arithN (r := x.f0 - 1) rfl rfl rfl rfl ha1) rfl rfl rfl ?_
      refine Jw.take 6 rfl (by decide +kernel) (by intro c a d v w h; cases d <;> exact h) (fun w => sliStr Tryd.underlying9 rfl rfl rfl rfl ha2 ha3 hl9) rfl rfl rfl ?_
      refine Jw.take 7 rfl (by decide +kernel) (by intro c a d v w h; cases d <;> exact h) (fun w => Y.mv rfl rfl) rfl rfl rfl ?_
      refine Jw.step (mkD [] []) 8 rfl (by decide +kernel) rfl rfl ?_
      refine Jl.call1 (v := .string (joinB acc ⟨#[46]⟩)) rfl rfl rfl rfl en25 rfl (fun w hW => join_ ⟨#[46]⟩ acc _ _ w (hW.item (by repeat (first | exact memH | refine memT ?_))) ha4 hj13) ?_
      refine Jl.jw ?_
      refine Jw.take 9 rfl (by decide +kernel) (by intro c a d v w h; cases d <;> exact h) (fun w => Y.cat rfl rfl rfl hcs) rfl rfl rfl ?_
      refine Jw.step (mkD [] []) 10 rfl (by decide +kernel) rfl rfl ?_
      refine Jl.lit1 rfl rfl rfl rfl rfl el34 zero9 rfl (fun gx => ?_)
      refine Jl.jw ?_
      refine Jw.step (mkD [] [0]) 11 rfl (by decide +kernel) rfl rfl ?_
      refine Jl.app (dk := Kd.string) (xs := ws) (letters.extract ((x.f0 - 1)).toNat (x.f0).toNat ++ joinB acc ⟨#[46]⟩) (fun _ => False) rfl rfl rfl rfl rfl rfl ap34 (by repeat (first | exact .head _ | refine .tail _ ?_)) rfl (fun w => rfl) (fun u hu => by rw [List.mem_singleton.1 hu]; rfl) (by repeat (first | exact .z | apply OutAt.s)) hw1 hw2 (fun Ar' cr' hcr' => ?_)
      refine Jl.jw ?_
      refine Jw.take 12 rfl (by decide +kernel) (by intro c a d v w h; cases d <;> exact h) (fun w => Y.asg rfl rfl) rfl rfl rfl ?_
      refine Jw.done (by decide +kernel) (Ej.go ?_ (fun _ _ h => h))
      clear hj13 hcs hwd
      repeat (first
    | (apply gateO; first
      | refine Jl.yd (Y.mv rfl rfl) rfl rfl rfl ?_
      | refine Jl.yd (Y.asg rfl rfl) rfl rfl rfl ?_
      | refine Jl.yd (Y.ext rfl rfl rfl) rfl rfl rfl ?_
      | refine Jl.yd (Y.pickT rfl rfl rfl) rfl rfl rfl ?_
      | refine Jl.yd (Y.pickF rfl rfl rfl) rfl rfl rfl ?_
      | refine Jl.off rfl rfl rfl ?_
      | refine Jl.yd (Y.cmpF rfl rfl rfl rfl (by omega)) rfl rfl rfl ?_
      | refine Jl.yd (Y.cmpT rfl rfl rfl rfl (by omega)) rfl rfl rfl ?_
      | refine Jl.yd (Y.neqB rfl rfl rfl Tryd.underlying4) rfl rfl rfl ?_
      | refine Jl.yd (Y.cmp rfl rfl rfl rfl) rfl rfl rfl ?_
      | refine Jl.yd (Y.not rfl rfl) rfl rfl rfl ?_
      | refine Jl.yd (Y.arithN rfl rfl rfl rfl (by omega)) rfl rfl rfl ?_
      | refine Jl.yd (Y.arith64 rfl rfl rfl rfl) rfl rfl rfl ?_
      | refine Jl.splitG rfl rfl (fun h => ?_) (fun h => ?_))
    | (apply gateE; first
      | refine Jl.nil (Ej.go ?_ (fun _ _ h => h))
      | (refine Jl.nil (Ej.back (fun _ _ h => h) (by repeat (first | exact .refl | apply DropTo.tail)) ?_); repeat (first | exact trivial | refine ⟨rfl, ?_⟩)))
    | (apply gateC; first
      | refine Cj.block rfl ?_
      | refine Cj.condF rfl rfl (Cj.skip rfl (Ej.go ?_ (fun _ _ h => h)))
      | (refine Cj.condF rfl rfl (Cj.skip rfl (Ej.back (fun _ _ h => h) (by repeat (first | exact .refl | apply DropTo.tail)) ?_)); repeat (first | exact trivial | refine ⟨rfl, ?_⟩))
      | refine Cj.condF rfl rfl ?_
      | refine Cj.condT rfl rfl ?_
      | refine Cj.exit rfl (Ej.go ?_ (fun _ _ h => h))
      | refine Cj.cond rfl rfl (fun h => ?_) (fun h => ?_)
      | refine Cj.skip rfl (Ej.go ?_ (fun _ _ h => h))
      | (refine Cj.skip rfl (Ej.back (fun _ _ h => h) (by repeat (first | exact .refl | apply DropTo.tail)) ?_); repeat (first | exact trivial | refine ⟨rfl, ?_⟩))
      | refine Cj.seq rfl ?_
      | refine Cj.region rfl ?_))
      generalize letters.extract ((x.f0 - 1)).toNat (x.f0).toNat ++ joinB acc ⟨#[46]⟩ = wd at hwn ⊢
      refine Jl.nil (Ej.cutP (ι := Nat × List ByteArray × Option Addr × Nat) _ _ _ _ (fun _ _ h => h) (i + 1, ws ++ [wd], Ar', cr') ⟨⟨by dsimp only; omega, hwn⟩, by dsimp only; omega⟩ ⟨rfl, rfl, rfl, rfl, trivial⟩ (by repeat (first | exact .nil | refine Pick.cons (by repeat (first | exact .z | apply OutAt.s)) ?_)) (fun p hp => .tail _ hp))
  · obtain rfl : i = xs.length := by omega
    rw [List.take_length] at hws
    have hj : joinB ws ⟨#[32]⟩ = desT xs xs.length := by
      have := des_join xs xs.length (Nat.le_refl _)
      rw [List.take_length] at this
      rw [hws]; exact this
    have hjs : (joinB ws ⟨#[32]⟩).size ≤ 1048576 := by
      have := des_size hgo xs.length (Nat.le_refl _)
      rw [hj]; omega
    repeat (first
    | (apply gateO; first
      | refine Jl.yd (Y.mv rfl rfl) rfl rfl rfl ?_
      | refine Jl.yd (Y.asg rfl rfl) rfl rfl rfl ?_
      | refine Jl.yd (Y.ext rfl rfl rfl) rfl rfl rfl ?_
      | refine Jl.yd (Y.pickT rfl rfl rfl) rfl rfl rfl ?_
      | refine Jl.yd (Y.pickF rfl rfl rfl) rfl rfl rfl ?_
      | refine Jl.off rfl rfl rfl ?_
      | refine Jl.yd (Y.cmpF rfl rfl rfl rfl (by omega)) rfl rfl rfl ?_
      | refine Jl.yd (Y.cmpT rfl rfl rfl rfl (by omega)) rfl rfl rfl ?_
      | refine Jl.yd (Y.neqB rfl rfl rfl Tryd.underlying4) rfl rfl rfl ?_
      | refine Jl.yd (Y.cmp rfl rfl rfl rfl) rfl rfl rfl ?_
      | refine Jl.yd (Y.not rfl rfl) rfl rfl rfl ?_
      | refine Jl.yd (Y.arithN rfl rfl rfl rfl (by omega)) rfl rfl rfl ?_
      | refine Jl.yd (Y.arith64 rfl rfl rfl rfl) rfl rfl rfl ?_
      | refine Jl.call1 (v := .string (joinB ws ⟨#[32]⟩)) rfl rfl rfl rfl en25 rfl (fun w hW => join_ ⟨#[32]⟩ ws _ _ w (hW.item (by repeat (first | exact memH | refine memT ?_))) (by omega) hjs) ?_
      | refine Jl.splitG rfl rfl (fun h => ?_) (fun h => ?_))
    | (apply gateE; first
      | refine Jl.nil (Ej.go ?_ (fun _ _ h => h))
      | (refine Jl.nil (Ej.back (fun _ _ h => h) (by repeat (first | exact .refl | apply DropTo.tail)) ?_); repeat (first | exact trivial | refine ⟨rfl, ?_⟩)))
    | (apply gateC; first
      | refine Cj.block rfl ?_
      | refine Cj.ret rfl (Ej.out2 (P := Tryd.prog) (fn := Tryd.f13) (R := Rr) (fun _ _ h => h) rfl rfl rfl (fun w' hW => ?_))
      | refine Cj.condF rfl rfl (Cj.skip rfl (Ej.go ?_ (fun _ _ h => h)))
      | (refine Cj.condF rfl rfl (Cj.skip rfl (Ej.back (fun _ _ h => h) (by repeat (first | exact .refl | apply DropTo.tail)) ?_)); repeat (first | exact trivial | refine ⟨rfl, ?_⟩))
      | refine Cj.condF rfl rfl ?_
      | refine Cj.condT rfl rfl ?_
      | refine Cj.exit rfl (Ej.go ?_ (fun _ _ h => h))
      | refine Cj.cond rfl rfl (fun h => ?_) (fun h => ?_)
      | refine Cj.skip rfl (Ej.go ?_ (fun _ _ h => h))
      | (refine Cj.skip rfl (Ej.back (fun _ _ h => h) (by repeat (first | exact .refl | apply DropTo.tail)) ?_); repeat (first | exact trivial | refine ⟨rfl, ?_⟩))
      | refine Cj.seq rfl ?_
      | refine Cj.region rfl ?_))
    exact ⟨by rw [hj], hW.below⟩
set_option maxHeartbeats 2000000 in
theorem lawA (l0 : List S46) (A0 : Option Addr) (c0 : Nat) (w : World) (htab : Lib.TabIs Tryd.prog w tabName .u64 Lib.pow10Tab) (hr0 : Kd.C k46 w A0 l0.length l0) (hc0 : l0.length ≤ c0) (r : Int) (hz : laws_szDesignS.f l0 1048576 = some r) (hr : r < 0) : Calls Tryd.prog 4 #[.slice A0 l0.length c0] w fun e w' => e = .returned (.bool true) ∧ Below w.heap.size w w' := by
  let Rr : Ending → World → Prop := fun e w' => e = .returned (.bool true) ∧ Below w.heap.size w w'
  refine enterW (args := [.slice A0 l0.length c0]) [(fun w => Kd.C k46 w A0 l0.length l0), (fun W => Lib.TabIs Tryd.prog W tabName .u64 Lib.pow10Tab)] (fun p hp W hb => by
    rcases List.mem_cons.1 hp with rfl | hp
    · exact Kd.C_below hr0 hb
    · rw [List.mem_singleton.1 hp]; exact tab_below htab hb) Tryd.func4 rfl rfl ?_
  show Cj Tryd.prog _ _ _ (bodyPost Tryd.prog Tryd.f4 Rr) _ _ _
  repeat (first
    | (apply gateO; first
      | refine Jl.yd (Y.mv rfl rfl) rfl rfl rfl ?_
      | refine Jl.yd (Y.asg rfl rfl) rfl rfl rfl ?_
      | refine Jl.yd (Y.ext rfl rfl rfl) rfl rfl rfl ?_
      | refine Jl.yd (Y.pickT rfl rfl rfl) rfl rfl rfl ?_
      | refine Jl.yd (Y.pickF rfl rfl rfl) rfl rfl rfl ?_
      | refine Jl.off rfl rfl rfl ?_
      | refine Jl.yd (Y.cmpF rfl rfl rfl rfl (by omega)) rfl rfl rfl ?_
      | refine Jl.yd (Y.cmpT rfl rfl rfl rfl (by omega)) rfl rfl rfl ?_
      | refine Jl.yd (Y.neqB rfl rfl rfl Tryd.underlying4) rfl rfl rfl ?_
      | refine Jl.yd (Y.cmp rfl rfl rfl rfl) rfl rfl rfl ?_
      | refine Jl.yd (Y.not rfl rfl) rfl rfl rfl ?_
      | refine Jl.yd (Y.arithN rfl rfl rfl rfl (by omega)) rfl rfl rfl ?_
      | refine Jl.yd (Y.arith64 rfl rfl rfl rfl) rfl rfl rfl ?_
      | refine Jl.call1 (v := .int .i64 r) rfl rfl rfl rfl en10 rfl (fun w hW => (laws_szDesignS.calls _ _ l0 1048576 r w (hW.at 0 rfl) hc0 hz).mono (fun _ _ h => ⟨h.1, bel_ h.2⟩)) ?_
      | refine Jl.splitG rfl rfl (fun h => ?_) (fun h => ?_))
    | (apply gateE; first
      | refine Jl.nil (Ej.go ?_ (fun _ _ h => h))
      | (refine Jl.nil (Ej.back (fun _ _ h => h) (by repeat (first | exact .refl | apply DropTo.tail)) ?_); repeat (first | exact trivial | refine ⟨rfl, ?_⟩)))
    | (apply gateC; first
      | refine Cj.ret rfl (Ej.out1 (P := Tryd.prog) (fn := Tryd.f4) (R := Rr) (fun _ _ h => h) rfl rfl (fun w' hW => ⟨rfl, hW.below⟩))
      | refine Cj.condF rfl rfl (Cj.skip rfl (Ej.go ?_ (fun _ _ h => h)))
      | (refine Cj.condF rfl rfl (Cj.skip rfl (Ej.back (fun _ _ h => h) (by repeat (first | exact .refl | apply DropTo.tail)) ?_)); repeat (first | exact trivial | refine ⟨rfl, ?_⟩))
      | refine Cj.condF rfl rfl ?_
      | refine Cj.condT rfl rfl ?_
      | refine Cj.exit rfl (Ej.go ?_ (fun _ _ h => h))
      | refine Cj.cond rfl rfl (fun h => ?_) (fun h => ?_)
      | refine Cj.skip rfl (Ej.go ?_ (fun _ _ h => h))
      | (refine Cj.skip rfl (Ej.back (fun _ _ h => h) (by repeat (first | exact .refl | apply DropTo.tail)) ?_); repeat (first | exact trivial | refine ⟨rfl, ?_⟩))
      | refine Cj.seq rfl ?_
      | refine Cj.region rfl ?_))
set_option maxHeartbeats 4000000 in
theorem lawB (l0 : List S46) (A0 : Option Addr) (c0 : Nat) (w : World) (htab : Lib.TabIs Tryd.prog w tabName .u64 Lib.pow10Tab) (hr0 : Kd.C k46 w A0 l0.length l0) (hc0 : l0.length ≤ c0) (r : Int) (hz : laws_szDesignS.f l0 1048576 = some r) (hr : ¬ r < 0) (l : List S37) (kt : Nat) (ht : laws_toDesignS.f kt l0 = some l) (q : ByteArray) (qb : Bool) (kq : Nat) (hq : laws_eqDesignS.f kq l l = some true)
    (hS : ∀ (A : Option Addr) (c : Nat) (w : World), Kd.C k37 w A l.length l → l.length ≤ c → Calls Tryd.prog 11 #[.slice A l.length c] w fun e w' => e = .returned (.tuple #[.string q, .bool qb]) ∧ Below w.heap.size w w')
    (hI : ∀ (A : Option Addr) (c : Nat) (w : World), Lib.TabIs Tryd.prog w tabName .u64 Lib.pow10Tab → Kd.C k37 w A l.length l → l.length ≤ c → Calls Tryd.prog 13 #[.slice A l.length c] w fun e w' => e = .returned (.tuple #[.string q, .bool qb]) ∧ Below w.heap.size w w') : Calls Tryd.prog 4 #[.slice A0 l0.length c0] w fun e w' => e = .returned (.bool true) ∧ Below w.heap.size w w' := by
  let Rr : Ending → World → Prop := fun e w' => e = .returned (.bool true) ∧ Below w.heap.size w w'
  refine enterW (args := [.slice A0 l0.length c0]) [(fun w => Kd.C k46 w A0 l0.length l0), (fun W => Lib.TabIs Tryd.prog W tabName .u64 Lib.pow10Tab)] (fun p hp W hb => by
    rcases List.mem_cons.1 hp with rfl | hp
    · exact Kd.C_below hr0 hb
    · rw [List.mem_singleton.1 hp]; exact tab_below htab hb) Tryd.func4 rfl rfl ?_
  show Cj Tryd.prog _ _ _ (bodyPost Tryd.prog Tryd.f4 Rr) _ _ _
  repeat (first
    | (apply gateO; first
      | refine Jl.yd (Y.mv rfl rfl) rfl rfl rfl ?_
      | refine Jl.yd (Y.asg rfl rfl) rfl rfl rfl ?_
      | refine Jl.yd (Y.ext rfl rfl rfl) rfl rfl rfl ?_
      | refine Jl.yd (Y.pickT rfl rfl rfl) rfl rfl rfl ?_
      | refine Jl.yd (Y.pickF rfl rfl rfl) rfl rfl rfl ?_
      | refine Jl.off rfl rfl rfl ?_
      | refine Jl.yd (Y.cmpF rfl rfl rfl rfl (by omega)) rfl rfl rfl ?_
      | refine Jl.yd (Y.cmpT rfl rfl rfl rfl (by omega)) rfl rfl rfl ?_
      | refine Jl.yd (Y.neqB rfl rfl rfl Tryd.underlying4) rfl rfl rfl ?_
      | refine Jl.yd (Y.cmp rfl rfl rfl rfl) rfl rfl rfl ?_
      | refine Jl.yd (Y.not rfl rfl) rfl rfl rfl ?_
      | refine Jl.yd (Y.arithN rfl rfl rfl rfl (by omega)) rfl rfl rfl ?_
      | refine Jl.yd (Y.arith64 rfl rfl rfl rfl) rfl rfl rfl ?_
      | refine Jl.call1 (v := .int .i64 r) rfl rfl rfl rfl en10 rfl (fun w hW => (laws_szDesignS.calls _ _ l0 1048576 r w (hW.at 0 rfl) hc0 hz).mono (fun _ _ h => ⟨h.1, bel_ h.2⟩)) ?_
      | refine Jl.yd (Y.neSF rfl rfl rfl) rfl rfl rfl ?_
      | refine Jl.callR 0 (fun v => v) rfl rfl rfl rfl en12 rfl (fun w hW => by with_reducible exact laws_toDesignS.calls kt _ _ l0 l w (hW.at 0 rfl) hc0 ht) (fun A c hl => ?_)
      | refine Jl.call1 (v := .tuple #[.string q, .bool qb]) rfl rfl rfl rfl en11 rfl (fun w hW => by with_reducible exact hS _ _ w (hW.rowC (by repeat (first | exact memH | refine memT ?_))) (hW.rowCap (by repeat (first | exact memH | refine memT ?_))).2) ?_
      | refine Jl.call1 (v := .tuple #[.string q, .bool qb]) rfl rfl rfl rfl en13 rfl (fun w hW => by with_reducible exact hI _ _ w (hW.at 1 rfl) (hW.rowC (by repeat (first | exact memH | refine memT ?_))) (hW.rowCap (by repeat (first | exact memH | refine memT ?_))).2) ?_
      | refine Jl.call1 (v := .bool true) rfl rfl rfl rfl en7 rfl (fun w hW => by with_reducible exact laws_eqDesignS.calls kq _ _ l _ _ l true w (hW.rowC (by repeat (first | exact memH | refine memT ?_))) (hW.rowCap (by repeat (first | exact memH | refine memT ?_))).2 (hW.rowC (by repeat (first | exact memH | refine memT ?_))) (hW.rowCap (by repeat (first | exact memH | refine memT ?_))).2 hq) ?_
      | refine Jl.splitG rfl rfl (fun h => ?_) (fun h => ?_))
    | (apply gateE; first
      | refine Jl.nil (Ej.go ?_ (fun _ _ h => h))
      | (refine Jl.nil (Ej.back (fun _ _ h => h) (by repeat (first | exact .refl | apply DropTo.tail)) ?_); repeat (first | exact trivial | refine ⟨rfl, ?_⟩)))
    | (apply gateC; first
      | refine Cj.ret rfl (Ej.out1 (P := Tryd.prog) (fn := Tryd.f4) (R := Rr) (fun _ _ h => h) rfl rfl (fun w' hW => ⟨rfl, hW.below⟩))
      | refine Cj.condF rfl rfl (Cj.skip rfl (Ej.go ?_ (fun _ _ h => h)))
      | (refine Cj.condF rfl rfl (Cj.skip rfl (Ej.back (fun _ _ h => h) (by repeat (first | exact .refl | apply DropTo.tail)) ?_)); repeat (first | exact trivial | refine ⟨rfl, ?_⟩))
      | refine Cj.condF rfl rfl ?_
      | refine Cj.condT rfl rfl ?_
      | refine Cj.exit rfl (Ej.go ?_ (fun _ _ h => h))
      | refine Cj.cond rfl rfl (fun h => ?_) (fun h => ?_)
      | refine Cj.skip rfl (Ej.go ?_ (fun _ _ h => h))
      | (refine Cj.skip rfl (Ej.back (fun _ _ h => h) (by repeat (first | exact .refl | apply DropTo.tail)) ?_); repeat (first | exact trivial | refine ⟨rfl, ?_⟩))
      | refine Cj.seq rfl ?_
      | refine Cj.region rfl ?_))
end Txt
end Go.Proofs.YtacimfnaacdobaaDoor.WK
