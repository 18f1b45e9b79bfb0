import Derived.KernelRfl
import Derived.Test.YtembbdhhpblapaaZFnSales5
namespace Go.Proofs.Ytembbdhhpblapaa.Q
open Go.RowKit Go.Proofs.YtembbdhhpblapaaW.PrintWords Go.Proofs.YtembbdhhpblapaaW.PrintLast Go.Proofs.YtembbdhhpblapaaW.PrintMore
attribute [local go_sem] max2_int min2_int max_two min_two max_three min_three max_four min_four
set_option linter.unusedVariables false
set_option linter.unusedSimpArgs false

/-! ### spec_l1Cur_appraisal: function 70 -/
def spec_l1Cur_appraisal.f (s0_0 : List Int) (s0_1 : Int) (s0_2 : Int) : Option (Int × Int × Int × Int × Bool × Int × Int) := (spec_l1Cur_among.f s0_0 s0_1 s0_2 (([1, 240, 300, 480, 4000] : List Int))).bind fun bt383 => ((spec_l1Cur_among.f s0_0 bt383.2.1 bt383.2.2 (([100, 1600, 3000, 10000] : List Int))).bind fun bt389 => ((spec_l1Cur_among.f s0_0 bt389.2.1 bt389.2.2 (([0, 49, 50, 99, 100, 400] : List Int))).bind fun bt395 => ((spec_l1Cur_pick.f s0_0 bt395.2.1 bt395.2.2 4).bind fun bt398 => ((spec_l1Cur_one.f s0_0 bt398.2.1 bt398.2.2 5).bind fun bt401 => ((spec_l1Cur_pick.f s0_0 bt401.2.1 bt401.2.2 70).bind fun bt405 => (if bt405.1 = 0 then ((spec_l1Cur_among.f s0_0 bt405.2.1 bt405.2.2 (([0, 4001] : List Int))).bind fun bt411 => (some (bt411.1, bt389.1, bt395.1, wrap64 (1 + bt398.1), bt401.1, bt411.2.1, bt411.2.2))) else (if bt405.1 = 1 then ((spec_l1Cur_among.f s0_0 bt405.2.1 bt405.2.2 (([99, 10001] : List Int))).bind fun bt417 => (some (bt383.1, bt417.1, bt395.1, wrap64 (1 + bt398.1), bt401.1, bt417.2.1, bt417.2.2))) else (if bt405.1 = 2 then ((spec_l1Cur_among.f s0_0 bt405.2.1 bt405.2.2 (([(-1), 401] : List Int))).bind fun bt423 => (some (bt383.1, bt389.1, bt423.1, wrap64 (1 + bt398.1), bt401.1, bt423.2.1, bt423.2.2))) else (if bt405.1 = 3 then ((spec_l1Cur_among.f s0_0 bt405.2.1 bt405.2.2 (([0, 5] : List Int))).bind fun bt429 => (some (bt383.1, bt389.1, bt395.1, bt429.1, bt401.1, bt429.2.1, bt429.2.2))) else (some (bt383.1, bt389.1, bt395.1, wrap64 (1 + bt398.1), bt401.1, bt405.2.1, bt405.2.2)))))))))))
end Go.Proofs.Ytembbdhhpblapaa.Q
namespace Go.Proofs.Ytembbdhhpblapaa.WK
open Go Go.RowKit Go.Proofs.Ytembbdhhpblapaa.Q Go.Proofs.YtembbdhhpblapaaW.PrintWords Go.Proofs.YtembbdhhpblapaaW.SL
set_option linter.unusedSimpArgs false
set_option linter.unusedVariables false
set_option maxRecDepth 100000
namespace SAL
namespace AP
theorem agg25 : AggT Try.prog 25 5 := ⟨by kernel_rfl⟩
theorem sz25 : SzT Try.prog 25 5 := ⟨by kernel_rfl⟩
theorem sz3 : SzT Try.prog 3 1 := ⟨by kernel_rfl⟩
theorem fld25_0 : FldT Try.prog 25 0 0 := ⟨by kernel_rfl⟩
theorem fld25_1 : FldT Try.prog 25 1 1 := ⟨by kernel_rfl⟩
theorem fld25_2 : FldT Try.prog 25 2 2 := ⟨by kernel_rfl⟩
theorem fld25_3 : FldT Try.prog 25 3 3 := ⟨by kernel_rfl⟩
theorem zero25 : ZeroT Try.prog 25 [.int .i64 0, .int .i64 0, .int .i64 0, .int .i64 0, .bool false] := ⟨by kernel_rfl⟩
theorem en71 : Ent Try.prog 71 := ⟨enters_of Try.func71 (by kernel_rfl) rfl⟩
theorem en72 : Ent Try.prog 72 := ⟨enters_of Try.func72 (by kernel_rfl) rfl⟩
theorem en82 : Ent Try.prog 82 := ⟨enters_of Try.func82 (by kernel_rfl) rfl⟩
theorem build5 {P : Program} {N : Nat} {B : Base} {L : Sl} {its : List Go.Proofs.YtembbdhhpblapaaW.SL.Item} {ps : List (World → Prop)} {o : Oper} {T : TypeId} {a b c d e : Operand} {u1 u2 u3 u4 u5 : Value} {us : List Value} (hop : o.op = .build T #[(0, a), (1, b), (2, c), (3, d), (4, e)]) (h1 : ev L a = some u1) (h2 : ev L b = some u2) (h3 : ev L c = some u3) (h4 : ev L d = some u4) (h5 : ev L e = some u5) (hr : ∀ w, (Instr.build T #[(0, u1), (1, u2), (2, u3), (3, u4), (4, u5)]).run P w = .ok (.agg us.toArray) w) : Yd P N B o (.agg us.toArray) L its ps := .mk <| fun a w hf hW => by
  unfold execOp; rw [hop]
  have := hr w
  simp [hf.ev h1, hf.ev h2, hf.ev h3, hf.ev h4, hf.ev h5, this]
theorem bldA (a b c d : Int) (e : Bool) (w : World) : (Instr.build 25 #[(0, .int .i64 a), (1, .int .i64 b), (2, .int .i64 c), (3, .int .i64 d), (4, .bool e)]).run Try.prog w = .ok (.agg ([.int .i64 a, .int .i64 b, .int .i64 c, .int .i64 d, .bool e] : List Value).toArray) w := by kernel_rfl
set_option maxHeartbeats 8000000 in
theorem appr_calls (g : Nat) (l0 : List Int) (s0_1 : Int) (s0_2 : Int) (r1 : Int) (r2 : Int) (r3 : Int) (r4 : Int) (r5 : Bool) (r6 : Int) (r7 : Int) (w0 w : World) (hI : IsS88 w0 w g l0 s0_1 s0_2) (hB : Below w0.heap.size w0 w) (h : spec_l1Cur_appraisal.f l0 s0_1 s0_2 = some (r1, r2, r3, r4, r5, r6, r7)) :
  Calls Try.prog 70 #[.pointer (some ⟨g, 0, none⟩)] w fun e w' => e = .returned (.agg #[.int .i64 r1, .int .i64 r2, .int .i64 r3, .int .i64 r4, .bool r5]) ∧ IsS88 w0 w' g l0 r6 r7 ∧ Below w0.heap.size w0 w' ∧ KeepBut w w' g none := by
  obtain ⟨⟨x1, a1, s1⟩, E1, h⟩ := Option.bind_eq_some_iff.1 h
  obtain ⟨⟨x2, a2, s2⟩, E2, h⟩ := Option.bind_eq_some_iff.1 h
  obtain ⟨⟨x3, a3, s3⟩, E3, h⟩ := Option.bind_eq_some_iff.1 h
  obtain ⟨⟨x4, a4, s4⟩, E4, h⟩ := Option.bind_eq_some_iff.1 h
  obtain ⟨⟨x5, a5, s5⟩, E5, h⟩ := Option.bind_eq_some_iff.1 h
  obtain ⟨⟨x6, a6, s6⟩, E6, h⟩ := Option.bind_eq_some_iff.1 h
  dsimp only at E2 E3 E4 E5 E6 h
  let Rr : Ending → World → Prop := fun e w' => e = .returned (.agg #[.int .i64 r1, .int .i64 r2, .int .i64 r3, .int .i64 r4, .bool r5]) ∧ IsS88 w0 w' g l0 r6 r7 ∧ Below w0.heap.size w0 w' ∧ KeepBut w w' g none
  refine enterS (S := fun k => k = g) (args := [.pointer (some ⟨g, 0, none⟩)]) [.any (Cur w0 g l0 s0_1 s0_2)] [(fun W : World => Below w0.heap.size w0 W)] (Own.single ⟨hI, fun _ => Iff.rfl⟩) (fun p hp => by rw [List.mem_singleton.1 hp]; exact sta_ hB hI.ge) Try.func70 rfl rfl ?_
  show Cj Try.prog _ _ _ (bodyPost Try.prog Try.f70 Rr) _ _ _
  by_cases c0 : x6 = 0
  · rw [if_pos c0] at h
    obtain ⟨⟨y, a7, s7⟩, E7, h⟩ := Option.bind_eq_some_iff.1 h
    subst c0
    injection h with h
    simp only [Prod.mk.injEq] at h
    obtain ⟨rfl, rfl, rfl, rfl, rfl, rfl, rfl⟩ := h
    repeat (first
    | (apply gateO; first
      | refine Jl.yd (Y.mv rfl rfl) rfl rfl rfl ?_
      | refine Jl.yd (Y.asg rfl rfl) rfl rfl rfl ?_
      | refine Jl.yd (Y.ext rfl rfl rfl) rfl rfl rfl ?_
      | refine Jl.yd (Y.pickT rfl rfl rfl) rfl rfl rfl ?_
      | refine Jl.yd (Y.pickF rfl rfl rfl) rfl rfl rfl ?_
      | refine Jl.off rfl rfl rfl ?_
      | refine Jl.yd (Y.cmpF rfl rfl rfl rfl (by omega)) rfl rfl rfl ?_
      | refine Jl.yd (Y.cmpT rfl rfl rfl rfl (by omega)) rfl rfl rfl ?_
      | refine Jl.yd (Y.neqB rfl rfl rfl Try.underlying4) rfl rfl rfl ?_
      | refine Jl.yd (Y.cmp rfl rfl rfl rfl) rfl rfl rfl ?_
      | refine Jl.yd (Y.not rfl rfl) rfl rfl rfl ?_
      | refine Jl.yd (Y.arithN rfl rfl rfl rfl (by omega)) rfl rfl rfl ?_
      | refine Jl.yd (Y.arith64 rfl rfl rfl rfl) rfl rfl rfl ?_
      | refine Jl.yd (Y.loadA rfl rfl agg25 (by repeat (first | exact .head _ | refine .tail _ ?_)) (by rfl)) rfl rfl rfl ?_
      | refine Jl.alloc rfl rfl rfl rfl zero25 (fun gz => ?_)
      | refine Jl.storeA rfl rfl rfl rfl rfl sz25 (by repeat (first | exact .z | apply SetAt.s)) (by rfl) (by rfl) ?_
      | refine Jl.store1 rfl rfl rfl rfl rfl sz3 rfl (by repeat (first | exact .head _ | refine .tail _ ?_)) (by repeat (first | exact .z | apply PutAt.s)) (by repeat (first | exact .z | apply SetAt.s)) ?_
      | refine Jl.litN 5 #[.int .i64 1, .int .i64 240, .int .i64 300, .int .i64 480, .int .i64 4000] 3 rfl rfl rfl rfl (by intro a w; kernel_rfl) (fun g1 => ?_)
      | refine Jl.litN 4 #[.int .i64 100, .int .i64 1600, .int .i64 3000, .int .i64 10000] 3 rfl rfl rfl rfl (by intro a w; kernel_rfl) (fun g2 => ?_)
      | refine Jl.litN 6 #[.int .i64 0, .int .i64 49, .int .i64 50, .int .i64 99, .int .i64 100, .int .i64 400] 3 rfl rfl rfl rfl (by intro a w; kernel_rfl) (fun g3 => ?_)
      | refine Jl.callM (v := .int .i64 x1) (.any (Cur w0 g l0 s0_1 s0_2)) (.any (Cur w0 g l0 a1 s1)) rfl rfl rfl rfl en71 rfl (by with_reducible first | exact .z | exact .s .z | exact .s (.s .z) | exact .s (.s (.s .z)) | exact .s (.s (.s (.s .z))) | exact .s (.s (.s (.s (.s .z)))) | exact .s (.s (.s (.s (.s (.s .z))))) | exact .s (.s (.s (.s (.s (.s (.s .z))))))) (fun w hA hW hp => by with_reducible exact among_ hp (hW.fact (p := (fun W : World => Below w0.heap.size w0 W)) (by repeat (first | exact memH | refine memT ?_))) (Box_at hW (g := g1) (T' := 3) (cs := [.int .i64 1, .int .i64 240, .int .i64 300, .int .i64 480, .int .i64 4000]) (by repeat (first | exact memH | refine memT ?_))) (L := [1, 240, 300, 480, 4000]) ⟨rfl, by decide, rfl⟩ E1) ?_
      | refine Jl.callM (v := .int .i64 x2) (.any (Cur w0 g l0 a1 s1)) (.any (Cur w0 g l0 a2 s2)) rfl rfl rfl rfl en71 rfl (by with_reducible first | exact .z | exact .s .z | exact .s (.s .z) | exact .s (.s (.s .z)) | exact .s (.s (.s (.s .z))) | exact .s (.s (.s (.s (.s .z)))) | exact .s (.s (.s (.s (.s (.s .z))))) | exact .s (.s (.s (.s (.s (.s (.s .z))))))) (fun w hA hW hp => by with_reducible exact among_ hp (hW.fact (p := (fun W : World => Below w0.heap.size w0 W)) (by repeat (first | exact memH | refine memT ?_))) (Box_at hW (g := g2) (T' := 3) (cs := [.int .i64 100, .int .i64 1600, .int .i64 3000, .int .i64 10000]) (by repeat (first | exact memH | refine memT ?_))) (L := [100, 1600, 3000, 10000]) ⟨rfl, by decide, rfl⟩ E2) ?_
      | refine Jl.callM (v := .int .i64 x3) (.any (Cur w0 g l0 a2 s2)) (.any (Cur w0 g l0 a3 s3)) rfl rfl rfl rfl en71 rfl (by with_reducible first | exact .z | exact .s .z | exact .s (.s .z) | exact .s (.s (.s .z)) | exact .s (.s (.s (.s .z))) | exact .s (.s (.s (.s (.s .z)))) | exact .s (.s (.s (.s (.s (.s .z))))) | exact .s (.s (.s (.s (.s (.s (.s .z))))))) (fun w hA hW hp => by with_reducible exact among_ hp (hW.fact (p := (fun W : World => Below w0.heap.size w0 W)) (by repeat (first | exact memH | refine memT ?_))) (Box_at hW (g := g3) (T' := 3) (cs := [.int .i64 0, .int .i64 49, .int .i64 50, .int .i64 99, .int .i64 100, .int .i64 400]) (by repeat (first | exact memH | refine memT ?_))) (L := [0, 49, 50, 99, 100, 400]) ⟨rfl, by decide, rfl⟩ E3) ?_
      | refine Jl.callM (v := .int .i64 x4) (.any (Cur w0 g l0 a3 s3)) (.any (Cur w0 g l0 a4 s4)) rfl rfl rfl rfl en72 rfl (by with_reducible first | exact .z | exact .s .z | exact .s (.s .z) | exact .s (.s (.s .z)) | exact .s (.s (.s (.s .z))) | exact .s (.s (.s (.s (.s .z)))) | exact .s (.s (.s (.s (.s (.s .z))))) | exact .s (.s (.s (.s (.s (.s (.s .z))))))) (fun w hA hW hp => by with_reducible exact cur_ hp (hW.fact (p := (fun W : World => Below w0.heap.size w0 W)) (by repeat (first | exact memH | refine memT ?_))) (fun hI hB => spec_l1Cur_pick.calls g l0 a3 s3 4 x4 a4 s4 w0 w hI hB E4)) ?_
      | refine Jl.callM (v := .bool x5) (.any (Cur w0 g l0 a4 s4)) (.any (Cur w0 g l0 a5 s5)) rfl rfl rfl rfl en82 rfl (by with_reducible first | exact .z | exact .s .z | exact .s (.s .z) | exact .s (.s (.s .z)) | exact .s (.s (.s (.s .z))) | exact .s (.s (.s (.s (.s .z)))) | exact .s (.s (.s (.s (.s (.s .z))))) | exact .s (.s (.s (.s (.s (.s (.s .z))))))) (fun w hA hW hp => by with_reducible exact cur_ hp (hW.fact (p := (fun W : World => Below w0.heap.size w0 W)) (by repeat (first | exact memH | refine memT ?_))) (fun hI hB => spec_l1Cur_one.calls g l0 a4 s4 5 x5 a5 s5 w0 w hI hB E5)) ?_
      | refine Jl.callM (v := .int .i64 0) (.any (Cur w0 g l0 a5 s5)) (.any (Cur w0 g l0 a6 s6)) rfl rfl rfl rfl en72 rfl (by with_reducible first | exact .z | exact .s .z | exact .s (.s .z) | exact .s (.s (.s .z)) | exact .s (.s (.s (.s .z))) | exact .s (.s (.s (.s (.s .z)))) | exact .s (.s (.s (.s (.s (.s .z))))) | exact .s (.s (.s (.s (.s (.s (.s .z))))))) (fun w hA hW hp => by with_reducible exact cur_ hp (hW.fact (p := (fun W : World => Below w0.heap.size w0 W)) (by repeat (first | exact memH | refine memT ?_))) (fun hI hB => spec_l1Cur_pick.calls g l0 a5 s5 70 0 a6 s6 w0 w hI hB E6)) ?_
      | refine Jl.yd (Y.arith64 rfl rfl rfl rfl) rfl rfl rfl ?_
      | refine Jl.yd (build5 (us := [.int .i64 x1, .int .i64 x2, .int .i64 x3, .int .i64 (wrap64 (1 + x4)), .bool x5]) rfl rfl rfl rfl rfl rfl (fun w => bldA _ _ _ _ _ w)) rfl rfl rfl ?_
      | refine Jl.litN 2 #[.int .i64 0, .int .i64 4001] 3 rfl rfl rfl rfl (by intro a w; kernel_rfl) (fun g4 => ?_)
      | refine Jl.callM (v := .int .i64 y) (.any (Cur w0 g l0 a6 s6)) (.any (Cur w0 g l0 a7 s7)) rfl rfl rfl rfl en71 rfl (by with_reducible first | exact .z | exact .s .z | exact .s (.s .z) | exact .s (.s (.s .z)) | exact .s (.s (.s (.s .z))) | exact .s (.s (.s (.s (.s .z)))) | exact .s (.s (.s (.s (.s (.s .z))))) | exact .s (.s (.s (.s (.s (.s (.s .z))))))) (fun w hA hW hp => by with_reducible exact among_ hp (hW.fact (p := (fun W : World => Below w0.heap.size w0 W)) (by repeat (first | exact memH | refine memT ?_))) (Box_at hW (g := g4) (T' := 3) (cs := [.int .i64 0, .int .i64 4001]) (by repeat (first | exact memH | refine memT ?_))) (L := [0, 4001]) ⟨rfl, by decide, rfl⟩ E7) ?_
      | refine Jl.yd (Y.fld0 rfl rfl fld25_0) rfl rfl rfl ?_
      | refine Jl.yd (Y.fld0 rfl rfl fld25_1) rfl rfl rfl ?_
      | refine Jl.yd (Y.fld0 rfl rfl fld25_2) rfl rfl rfl ?_
      | refine Jl.yd (Y.fld0 rfl rfl fld25_3) rfl rfl rfl ?_
      | refine Jl.splitG rfl rfl (fun h => ?_) (fun h => ?_))
    | (apply gateE; first
      | refine Jl.nil (Ej.go ?_ (fun _ _ h => h))
      | (refine Jl.nil (Ej.back (fun _ _ h => h) (by repeat (first | exact .refl | apply DropTo.tail)) ?_); repeat (first | exact trivial | refine ⟨rfl, ?_⟩)))
    | (apply gateC; first
      | refine Cj.block rfl ?_
      | refine Cj.ret rfl (outC (P := Try.prog) (fn := Try.f70) (R := Rr) (fun _ _ h => h) rfl rfl (by repeat (first | exact .head _ | refine .tail _ ?_)) Try.underlying25 rfl (by kernel_rfl) (fun w' hW => ⟨rfl, retC hW (by repeat (first | exact .nil | refine Pick.cons (by repeat (first | exact .z | apply OutAt.s)) ?_)) (hW.fact (p := (fun W : World => Below w0.heap.size w0 W)) (by repeat (first | exact memH | refine memT ?_)))⟩))
      | refine Cj.condF rfl rfl (Cj.skip rfl (Ej.go ?_ (fun _ _ h => h)))
      | (refine Cj.condF rfl rfl (Cj.skip rfl (Ej.back (fun _ _ h => h) (by repeat (first | exact .refl | apply DropTo.tail)) ?_)); repeat (first | exact trivial | refine ⟨rfl, ?_⟩))
      | refine Cj.condF rfl rfl ?_
      | refine Cj.condT rfl rfl ?_
      | refine Cj.exit rfl (Ej.go ?_ (fun _ _ h => h))
      | refine Cj.cond rfl rfl (fun h => ?_) (fun h => ?_)
      | refine Cj.skip rfl (Ej.go ?_ (fun _ _ h => h))
      | (refine Cj.skip rfl (Ej.back (fun _ _ h => h) (by repeat (first | exact .refl | apply DropTo.tail)) ?_); repeat (first | exact trivial | refine ⟨rfl, ?_⟩))
      | refine Cj.seq rfl ?_
      | refine Cj.region rfl ?_))
  rw [if_neg c0] at h
  by_cases c1 : x6 = 1
  · rw [if_pos c1] at h
    obtain ⟨⟨y, a7, s7⟩, E7, h⟩ := Option.bind_eq_some_iff.1 h
    subst c1
    injection h with h
    simp only [Prod.mk.injEq] at h
    obtain ⟨rfl, rfl, rfl, rfl, rfl, rfl, rfl⟩ := h
    repeat (first
    | (apply gateO; first
      | refine Jl.yd (Y.mv rfl rfl) rfl rfl rfl ?_
      | refine Jl.yd (Y.asg rfl rfl) rfl rfl rfl ?_
      | refine Jl.yd (Y.ext rfl rfl rfl) rfl rfl rfl ?_
      | refine Jl.yd (Y.pickT rfl rfl rfl) rfl rfl rfl ?_
      | refine Jl.yd (Y.pickF rfl rfl rfl) rfl rfl rfl ?_
      | refine Jl.off rfl rfl rfl ?_
      | refine Jl.yd (Y.cmpF rfl rfl rfl rfl (by omega)) rfl rfl rfl ?_
      | refine Jl.yd (Y.cmpT rfl rfl rfl rfl (by omega)) rfl rfl rfl ?_
      | refine Jl.yd (Y.neqB rfl rfl rfl Try.underlying4) rfl rfl rfl ?_
      | refine Jl.yd (Y.cmp rfl rfl rfl rfl) rfl rfl rfl ?_
      | refine Jl.yd (Y.not rfl rfl) rfl rfl rfl ?_
      | refine Jl.yd (Y.arithN rfl rfl rfl rfl (by omega)) rfl rfl rfl ?_
      | refine Jl.yd (Y.arith64 rfl rfl rfl rfl) rfl rfl rfl ?_
      | refine Jl.yd (Y.loadA rfl rfl agg25 (by repeat (first | exact .head _ | refine .tail _ ?_)) (by rfl)) rfl rfl rfl ?_
      | refine Jl.alloc rfl rfl rfl rfl zero25 (fun gz => ?_)
      | refine Jl.storeA rfl rfl rfl rfl rfl sz25 (by repeat (first | exact .z | apply SetAt.s)) (by rfl) (by rfl) ?_
      | refine Jl.store1 rfl rfl rfl rfl rfl sz3 rfl (by repeat (first | exact .head _ | refine .tail _ ?_)) (by repeat (first | exact .z | apply PutAt.s)) (by repeat (first | exact .z | apply SetAt.s)) ?_
      | refine Jl.litN 5 #[.int .i64 1, .int .i64 240, .int .i64 300, .int .i64 480, .int .i64 4000] 3 rfl rfl rfl rfl (by intro a w; kernel_rfl) (fun g1 => ?_)
      | refine Jl.litN 4 #[.int .i64 100, .int .i64 1600, .int .i64 3000, .int .i64 10000] 3 rfl rfl rfl rfl (by intro a w; kernel_rfl) (fun g2 => ?_)
      | refine Jl.litN 6 #[.int .i64 0, .int .i64 49, .int .i64 50, .int .i64 99, .int .i64 100, .int .i64 400] 3 rfl rfl rfl rfl (by intro a w; kernel_rfl) (fun g3 => ?_)
      | refine Jl.callM (v := .int .i64 x1) (.any (Cur w0 g l0 s0_1 s0_2)) (.any (Cur w0 g l0 a1 s1)) rfl rfl rfl rfl en71 rfl (by with_reducible first | exact .z | exact .s .z | exact .s (.s .z) | exact .s (.s (.s .z)) | exact .s (.s (.s (.s .z))) | exact .s (.s (.s (.s (.s .z)))) | exact .s (.s (.s (.s (.s (.s .z))))) | exact .s (.s (.s (.s (.s (.s (.s .z))))))) (fun w hA hW hp => by with_reducible exact among_ hp (hW.fact (p := (fun W : World => Below w0.heap.size w0 W)) (by repeat (first | exact memH | refine memT ?_))) (Box_at hW (g := g1) (T' := 3) (cs := [.int .i64 1, .int .i64 240, .int .i64 300, .int .i64 480, .int .i64 4000]) (by repeat (first | exact memH | refine memT ?_))) (L := [1, 240, 300, 480, 4000]) ⟨rfl, by decide, rfl⟩ E1) ?_
      | refine Jl.callM (v := .int .i64 x2) (.any (Cur w0 g l0 a1 s1)) (.any (Cur w0 g l0 a2 s2)) rfl rfl rfl rfl en71 rfl (by with_reducible first | exact .z | exact .s .z | exact .s (.s .z) | exact .s (.s (.s .z)) | exact .s (.s (.s (.s .z))) | exact .s (.s (.s (.s (.s .z)))) | exact .s (.s (.s (.s (.s (.s .z))))) | exact .s (.s (.s (.s (.s (.s (.s .z))))))) (fun w hA hW hp => by with_reducible exact among_ hp (hW.fact (p := (fun W : World => Below w0.heap.size w0 W)) (by repeat (first | exact memH | refine memT ?_))) (Box_at hW (g := g2) (T' := 3) (cs := [.int .i64 100, .int .i64 1600, .int .i64 3000, .int .i64 10000]) (by repeat (first | exact memH | refine memT ?_))) (L := [100, 1600, 3000, 10000]) ⟨rfl, by decide, rfl⟩ E2) ?_
      | refine Jl.callM (v := .int .i64 x3) (.any (Cur w0 g l0 a2 s2)) (.any (Cur w0 g l0 a3 s3)) rfl rfl rfl rfl en71 rfl (by with_reducible first | exact .z | exact .s .z | exact .s (.s .z) | exact .s (.s (.s .z)) | exact .s (.s (.s (.s .z))) | exact .s (.s (.s (.s (.s .z)))) | exact .s (.s (.s (.s (.s (.s .z))))) | exact .s (.s (.s (.s (.s (.s (.s .z))))))) (fun w hA hW hp => by with_reducible exact among_ hp (hW.fact (p := (fun W : World => Below w0.heap.size w0 W)) (by repeat (first | exact memH | refine memT ?_))) (Box_at hW (g := g3) (T' := 3) (cs := [.int .i64 0, .int .i64 49, .int .i64 50, .int .i64 99, .int .i64 100, .int .i64 400]) (by repeat (first | exact memH | refine memT ?_))) (L := [0, 49, 50, 99, 100, 400]) ⟨rfl, by decide, rfl⟩ E3) ?_
      | refine Jl.callM (v := .int .i64 x4) (.any (Cur w0 g l0 a3 s3)) (.any (Cur w0 g l0 a4 s4)) rfl rfl rfl rfl en72 rfl (by with_reducible first | exact .z | exact .s .z | exact .s (.s .z) | exact .s (.s (.s .z)) | exact .s (.s (.s (.s .z))) | exact .s (.s (.s (.s (.s .z)))) | exact .s (.s (.s (.s (.s (.s .z))))) | exact .s (.s (.s (.s (.s (.s (.s .z))))))) (fun w hA hW hp => by with_reducible exact cur_ hp (hW.fact (p := (fun W : World => Below w0.heap.size w0 W)) (by repeat (first | exact memH | refine memT ?_))) (fun hI hB => spec_l1Cur_pick.calls g l0 a3 s3 4 x4 a4 s4 w0 w hI hB E4)) ?_
      | refine Jl.callM (v := .bool x5) (.any (Cur w0 g l0 a4 s4)) (.any (Cur w0 g l0 a5 s5)) rfl rfl rfl rfl en82 rfl (by with_reducible first | exact .z | exact .s .z | exact .s (.s .z) | exact .s (.s (.s .z)) | exact .s (.s (.s (.s .z))) | exact .s (.s (.s (.s (.s .z)))) | exact .s (.s (.s (.s (.s (.s .z))))) | exact .s (.s (.s (.s (.s (.s (.s .z))))))) (fun w hA hW hp => by with_reducible exact cur_ hp (hW.fact (p := (fun W : World => Below w0.heap.size w0 W)) (by repeat (first | exact memH | refine memT ?_))) (fun hI hB => spec_l1Cur_one.calls g l0 a4 s4 5 x5 a5 s5 w0 w hI hB E5)) ?_
      | refine Jl.callM (v := .int .i64 1) (.any (Cur w0 g l0 a5 s5)) (.any (Cur w0 g l0 a6 s6)) rfl rfl rfl rfl en72 rfl (by with_reducible first | exact .z | exact .s .z | exact .s (.s .z) | exact .s (.s (.s .z)) | exact .s (.s (.s (.s .z))) | exact .s (.s (.s (.s (.s .z)))) | exact .s (.s (.s (.s (.s (.s .z))))) | exact .s (.s (.s (.s (.s (.s (.s .z))))))) (fun w hA hW hp => by with_reducible exact cur_ hp (hW.fact (p := (fun W : World => Below w0.heap.size w0 W)) (by repeat (first | exact memH | refine memT ?_))) (fun hI hB => spec_l1Cur_pick.calls g l0 a5 s5 70 1 a6 s6 w0 w hI hB E6)) ?_
      | refine Jl.yd (Y.arith64 rfl rfl rfl rfl) rfl rfl rfl ?_
      | refine Jl.yd (build5 (us := [.int .i64 x1, .int .i64 x2, .int .i64 x3, .int .i64 (wrap64 (1 + x4)), .bool x5]) rfl rfl rfl rfl rfl rfl (fun w => bldA _ _ _ _ _ w)) rfl rfl rfl ?_
      | refine Jl.litN 2 #[.int .i64 99, .int .i64 10001] 3 rfl rfl rfl rfl (by intro a w; kernel_rfl) (fun g4 => ?_)
      | refine Jl.callM (v := .int .i64 y) (.any (Cur w0 g l0 a6 s6)) (.any (Cur w0 g l0 a7 s7)) rfl rfl rfl rfl en71 rfl (by with_reducible first | exact .z | exact .s .z | exact .s (.s .z) | exact .s (.s (.s .z)) | exact .s (.s (.s (.s .z))) | exact .s (.s (.s (.s (.s .z)))) | exact .s (.s (.s (.s (.s (.s .z))))) | exact .s (.s (.s (.s (.s (.s (.s .z))))))) (fun w hA hW hp => by with_reducible exact among_ hp (hW.fact (p := (fun W : World => Below w0.heap.size w0 W)) (by repeat (first | exact memH | refine memT ?_))) (Box_at hW (g := g4) (T' := 3) (cs := [.int .i64 99, .int .i64 10001]) (by repeat (first | exact memH | refine memT ?_))) (L := [99, 10001]) ⟨rfl, by decide, rfl⟩ E7) ?_
      | refine Jl.yd (Y.fld0 rfl rfl fld25_0) rfl rfl rfl ?_
      | refine Jl.yd (Y.fld0 rfl rfl fld25_1) rfl rfl rfl ?_
      | refine Jl.yd (Y.fld0 rfl rfl fld25_2) rfl rfl rfl ?_
      | refine Jl.yd (Y.fld0 rfl rfl fld25_3) rfl rfl rfl ?_
      | refine Jl.splitG rfl rfl (fun h => ?_) (fun h => ?_))
    | (apply gateE; first
      | refine Jl.nil (Ej.go ?_ (fun _ _ h => h))
      | (refine Jl.nil (Ej.back (fun _ _ h => h) (by repeat (first | exact .refl | apply DropTo.tail)) ?_); repeat (first | exact trivial | refine ⟨rfl, ?_⟩)))
    | (apply gateC; first
      | refine Cj.block rfl ?_
      | refine Cj.ret rfl (outC (P := Try.prog) (fn := Try.f70) (R := Rr) (fun _ _ h => h) rfl rfl (by repeat (first | exact .head _ | refine .tail _ ?_)) Try.underlying25 rfl (by kernel_rfl) (fun w' hW => ⟨rfl, retC hW (by repeat (first | exact .nil | refine Pick.cons (by repeat (first | exact .z | apply OutAt.s)) ?_)) (hW.fact (p := (fun W : World => Below w0.heap.size w0 W)) (by repeat (first | exact memH | refine memT ?_)))⟩))
      | refine Cj.condF rfl rfl (Cj.skip rfl (Ej.go ?_ (fun _ _ h => h)))
      | (refine Cj.condF rfl rfl (Cj.skip rfl (Ej.back (fun _ _ h => h) (by repeat (first | exact .refl | apply DropTo.tail)) ?_)); repeat (first | exact trivial | refine ⟨rfl, ?_⟩))
      | refine Cj.condF rfl rfl ?_
      | refine Cj.condT rfl rfl ?_
      | refine Cj.exit rfl (Ej.go ?_ (fun _ _ h => h))
      | refine Cj.cond rfl rfl (fun h => ?_) (fun h => ?_)
      | refine Cj.skip rfl (Ej.go ?_ (fun _ _ h => h))
      | (refine Cj.skip rfl (Ej.back (fun _ _ h => h) (by repeat (first | exact .refl | apply DropTo.tail)) ?_); repeat (first | exact trivial | refine ⟨rfl, ?_⟩))
      | refine Cj.seq rfl ?_
      | refine Cj.region rfl ?_))
  rw [if_neg c1] at h
  by_cases c2 : x6 = 2
  · rw [if_pos c2] at h
    obtain ⟨⟨y, a7, s7⟩, E7, h⟩ := Option.bind_eq_some_iff.1 h
    subst c2
    injection h with h
    simp only [Prod.mk.injEq] at h
    obtain ⟨rfl, rfl, rfl, rfl, rfl, rfl, rfl⟩ := h
    repeat (first
    | (apply gateO; first
      | refine Jl.yd (Y.mv rfl rfl) rfl rfl rfl ?_
      | refine Jl.yd (Y.asg rfl rfl) rfl rfl rfl ?_
      | refine Jl.yd (Y.ext rfl rfl rfl) rfl rfl rfl ?_
      | refine Jl.yd (Y.pickT rfl rfl rfl) rfl rfl rfl ?_
      | refine Jl.yd (Y.pickF rfl rfl rfl) rfl rfl rfl ?_
      | refine Jl.off rfl rfl rfl ?_
      | refine Jl.yd (Y.cmpF rfl rfl rfl rfl (by omega)) rfl rfl rfl ?_
      | refine Jl.yd (Y.cmpT rfl rfl rfl rfl (by omega)) rfl rfl rfl ?_
      | refine Jl.yd (Y.neqB rfl rfl rfl Try.underlying4) rfl rfl rfl ?_
      | refine Jl.yd (Y.cmp rfl rfl rfl rfl) rfl rfl rfl ?_
      | refine Jl.yd (Y.not rfl rfl) rfl rfl rfl ?_
      | refine Jl.yd (Y.arithN rfl rfl rfl rfl (by omega)) rfl rfl rfl ?_
      | refine Jl.yd (Y.arith64 rfl rfl rfl rfl) rfl rfl rfl ?_
      | refine Jl.yd (Y.loadA rfl rfl agg25 (by repeat (first | exact .head _ | refine .tail _ ?_)) (by rfl)) rfl rfl rfl ?_
      | refine Jl.alloc rfl rfl rfl rfl zero25 (fun gz => ?_)
      | refine Jl.storeA rfl rfl rfl rfl rfl sz25 (by repeat (first | exact .z | apply SetAt.s)) (by rfl) (by rfl) ?_
      | refine Jl.store1 rfl rfl rfl rfl rfl sz3 rfl (by repeat (first | exact .head _ | refine .tail _ ?_)) (by repeat (first | exact .z | apply PutAt.s)) (by repeat (first | exact .z | apply SetAt.s)) ?_
      | refine Jl.litN 5 #[.int .i64 1, .int .i64 240, .int .i64 300, .int .i64 480, .int .i64 4000] 3 rfl rfl rfl rfl (by intro a w; kernel_rfl) (fun g1 => ?_)
      | refine Jl.litN 4 #[.int .i64 100, .int .i64 1600, .int .i64 3000, .int .i64 10000] 3 rfl rfl rfl rfl (by intro a w; kernel_rfl) (fun g2 => ?_)
      | refine Jl.litN 6 #[.int .i64 0, .int .i64 49, .int .i64 50, .int .i64 99, .int .i64 100, .int .i64 400] 3 rfl rfl rfl rfl (by intro a w; kernel_rfl) (fun g3 => ?_)
      | refine Jl.callM (v := .int .i64 x1) (.any (Cur w0 g l0 s0_1 s0_2)) (.any (Cur w0 g l0 a1 s1)) rfl rfl rfl rfl en71 rfl (by with_reducible first | exact .z | exact .s .z | exact .s (.s .z) | exact .s (.s (.s .z)) | exact .s (.s (.s (.s .z))) | exact .s (.s (.s (.s (.s .z)))) | exact .s (.s (.s (.s (.s (.s .z))))) | exact .s (.s (.s (.s (.s (.s (.s .z))))))) (fun w hA hW hp => by with_reducible exact among_ hp (hW.fact (p := (fun W : World => Below w0.heap.size w0 W)) (by repeat (first | exact memH | refine memT ?_))) (Box_at hW (g := g1) (T' := 3) (cs := [.int .i64 1, .int .i64 240, .int .i64 300, .int .i64 480, .int .i64 4000]) (by repeat (first | exact memH | refine memT ?_))) (L := [1, 240, 300, 480, 4000]) ⟨rfl, by decide, rfl⟩ E1) ?_
      | refine Jl.callM (v := .int .i64 x2) (.any (Cur w0 g l0 a1 s1)) (.any (Cur w0 g l0 a2 s2)) rfl rfl rfl rfl en71 rfl (by with_reducible first | exact .z | exact .s .z | exact .s (.s .z) | exact .s (.s (.s .z)) | exact .s (.s (.s (.s .z))) | exact .s (.s (.s (.s (.s .z)))) | exact .s (.s (.s (.s (.s (.s .z))))) | exact .s (.s (.s (.s (.s (.s (.s .z))))))) (fun w hA hW hp => by with_reducible exact among_ hp (hW.fact (p := (fun W : World => Below w0.heap.size w0 W)) (by repeat (first | exact memH | refine memT ?_))) (Box_at hW (g := g2) (T' := 3) (cs := [.int .i64 100, .int .i64 1600, .int .i64 3000, .int .i64 10000]) (by repeat (first | exact memH | refine memT ?_))) (L := [100, 1600, 3000, 10000]) ⟨rfl, by decide, rfl⟩ E2) ?_
      | refine Jl.callM (v := .int .i64 x3) (.any (Cur w0 g l0 a2 s2)) (.any (Cur w0 g l0 a3 s3)) rfl rfl rfl rfl en71 rfl (by with_reducible first | exact .z | exact .s .z | exact .s (.s .z) | exact .s (.s (.s .z)) | exact .s (.s (.s (.s .z))) | exact .s (.s (.s (.s (.s .z)))) | exact .s (.s (.s (.s (.s (.s .z))))) | exact .s (.s (.s (.s (.s (.s (.s .z))))))) (fun w hA hW hp => by with_reducible exact among_ hp (hW.fact (p := (fun W : World => Below w0.heap.size w0 W)) (by repeat (first | exact memH | refine memT ?_))) (Box_at hW (g := g3) (T' := 3) (cs := [.int .i64 0, .int .i64 49, .int .i64 50, .int .i64 99, .int .i64 100, .int .i64 400]) (by repeat (first | exact memH | refine memT ?_))) (L := [0, 49, 50, 99, 100, 400]) ⟨rfl, by decide, rfl⟩ E3) ?_
      | refine Jl.callM (v := .int .i64 x4) (.any (Cur w0 g l0 a3 s3)) (.any (Cur w0 g l0 a4 s4)) rfl rfl rfl rfl en72 rfl (by with_reducible first | exact .z | exact .s .z | exact .s (.s .z) | exact .s (.s (.s .z)) | exact .s (.s (.s (.s .z))) | exact .s (.s (.s (.s (.s .z)))) | exact .s (.s (.s (.s (.s (.s .z))))) | exact .s (.s (.s (.s (.s (.s (.s .z))))))) (fun w hA hW hp => by with_reducible exact cur_ hp (hW.fact (p := (fun W : World => Below w0.heap.size w0 W)) (by repeat (first | exact memH | refine memT ?_))) (fun hI hB => spec_l1Cur_pick.calls g l0 a3 s3 4 x4 a4 s4 w0 w hI hB E4)) ?_
      | refine Jl.callM (v := .bool x5) (.any (Cur w0 g l0 a4 s4)) (.any (Cur w0 g l0 a5 s5)) rfl rfl rfl rfl en82 rfl (by with_reducible first | exact .z | exact .s .z | exact .s (.s .z) | exact .s (.s (.s .z)) | exact .s (.s (.s (.s .z))) | exact .s (.s (.s (.s (.s .z)))) | exact .s (.s (.s (.s (.s (.s .z))))) | exact .s (.s (.s (.s (.s (.s (.s .z))))))) (fun w hA hW hp => by with_reducible exact cur_ hp (hW.fact (p := (fun W : World => Below w0.heap.size w0 W)) (by repeat (first | exact memH | refine memT ?_))) (fun hI hB => spec_l1Cur_one.calls g l0 a4 s4 5 x5 a5 s5 w0 w hI hB E5)) ?_
      | refine Jl.callM (v := .int .i64 2) (.any (Cur w0 g l0 a5 s5)) (.any (Cur w0 g l0 a6 s6)) rfl rfl rfl rfl en72 rfl (by with_reducible first | exact .z | exact .s .z | exact .s (.s .z) | exact .s (.s (.s .z)) | exact .s (.s (.s (.s .z))) | exact .s (.s (.s (.s (.s .z)))) | exact .s (.s (.s (.s (.s (.s .z))))) | exact .s (.s (.s (.s (.s (.s (.s .z))))))) (fun w hA hW hp => by with_reducible exact cur_ hp (hW.fact (p := (fun W : World => Below w0.heap.size w0 W)) (by repeat (first | exact memH | refine memT ?_))) (fun hI hB => spec_l1Cur_pick.calls g l0 a5 s5 70 2 a6 s6 w0 w hI hB E6)) ?_
      | refine Jl.yd (Y.arith64 rfl rfl rfl rfl) rfl rfl rfl ?_
      | refine Jl.yd (build5 (us := [.int .i64 x1, .int .i64 x2, .int .i64 x3, .int .i64 (wrap64 (1 + x4)), .bool x5]) rfl rfl rfl rfl rfl rfl (fun w => bldA _ _ _ _ _ w)) rfl rfl rfl ?_
      | refine Jl.litN 2 #[.int .i64 (-1), .int .i64 401] 3 rfl rfl rfl rfl (by intro a w; kernel_rfl) (fun g4 => ?_)
      | refine Jl.callM (v := .int .i64 y) (.any (Cur w0 g l0 a6 s6)) (.any (Cur w0 g l0 a7 s7)) rfl rfl rfl rfl en71 rfl (by with_reducible first | exact .z | exact .s .z | exact .s (.s .z) | exact .s (.s (.s .z)) | exact .s (.s (.s (.s .z))) | exact .s (.s (.s (.s (.s .z)))) | exact .s (.s (.s (.s (.s (.s .z))))) | exact .s (.s (.s (.s (.s (.s (.s .z))))))) (fun w hA hW hp => by with_reducible exact among_ hp (hW.fact (p := (fun W : World => Below w0.heap.size w0 W)) (by repeat (first | exact memH | refine memT ?_))) (Box_at hW (g := g4) (T' := 3) (cs := [.int .i64 (-1), .int .i64 401]) (by repeat (first | exact memH | refine memT ?_))) (L := [(-1), 401]) ⟨rfl, by decide, rfl⟩ E7) ?_
      | refine Jl.yd (Y.fld0 rfl rfl fld25_0) rfl rfl rfl ?_
      | refine Jl.yd (Y.fld0 rfl rfl fld25_1) rfl rfl rfl ?_
      | refine Jl.yd (Y.fld0 rfl rfl fld25_2) rfl rfl rfl ?_
      | refine Jl.yd (Y.fld0 rfl rfl fld25_3) rfl rfl rfl ?_
      | refine Jl.splitG rfl rfl (fun h => ?_) (fun h => ?_))
    | (apply gateE; first
      | refine Jl.nil (Ej.go ?_ (fun _ _ h => h))
      | (refine Jl.nil (Ej.back (fun _ _ h => h) (by repeat (first | exact .refl | apply DropTo.tail)) ?_); repeat (first | exact trivial | refine ⟨rfl, ?_⟩)))
    | (apply gateC; first
      | refine Cj.block rfl ?_
      | refine Cj.ret rfl (outC (P := Try.prog) (fn := Try.f70) (R := Rr) (fun _ _ h => h) rfl rfl (by repeat (first | exact .head _ | refine .tail _ ?_)) Try.underlying25 rfl (by kernel_rfl) (fun w' hW => ⟨rfl, retC hW (by repeat (first | exact .nil | refine Pick.cons (by repeat (first | exact .z | apply OutAt.s)) ?_)) (hW.fact (p := (fun W : World => Below w0.heap.size w0 W)) (by repeat (first | exact memH | refine memT ?_)))⟩))
      | refine Cj.condF rfl rfl (Cj.skip rfl (Ej.go ?_ (fun _ _ h => h)))
      | (refine Cj.condF rfl rfl (Cj.skip rfl (Ej.back (fun _ _ h => h) (by repeat (first | exact .refl | apply DropTo.tail)) ?_)); repeat (first | exact trivial | refine ⟨rfl, ?_⟩))
      | refine Cj.condF rfl rfl ?_
      | refine Cj.condT rfl rfl ?_
      | refine Cj.exit rfl (Ej.go ?_ (fun _ _ h => h))
      | refine Cj.cond rfl rfl (fun h => ?_) (fun h => ?_)
      | refine Cj.skip rfl (Ej.go ?_ (fun _ _ h => h))
      | (refine Cj.skip rfl (Ej.back (fun _ _ h => h) (by repeat (first | exact .refl | apply DropTo.tail)) ?_); repeat (first | exact trivial | refine ⟨rfl, ?_⟩))
      | refine Cj.seq rfl ?_
      | refine Cj.region rfl ?_))
  rw [if_neg c2] at h
  by_cases c3 : x6 = 3
  · rw [if_pos c3] at h
    obtain ⟨⟨y, a7, s7⟩, E7, h⟩ := Option.bind_eq_some_iff.1 h
    subst c3
    injection h with h
    simp only [Prod.mk.injEq] at h
    obtain ⟨rfl, rfl, rfl, rfl, rfl, rfl, rfl⟩ := h
    repeat (first
    | (apply gateO; first
      | refine Jl.yd (Y.mv rfl rfl) rfl rfl rfl ?_
      | refine Jl.yd (Y.asg rfl rfl) rfl rfl rfl ?_
      | refine Jl.yd (Y.ext rfl rfl rfl) rfl rfl rfl ?_
      | refine Jl.yd (Y.pickT rfl rfl rfl) rfl rfl rfl ?_
      | refine Jl.yd (Y.pickF rfl rfl rfl) rfl rfl rfl ?_
      | refine Jl.off rfl rfl rfl ?_
      | refine Jl.yd (Y.cmpF rfl rfl rfl rfl (by omega)) rfl rfl rfl ?_
      | refine Jl.yd (Y.cmpT rfl rfl rfl rfl (by omega)) rfl rfl rfl ?_
      | refine Jl.yd (Y.neqB rfl rfl rfl Try.underlying4) rfl rfl rfl ?_
      | refine Jl.yd (Y.cmp rfl rfl rfl rfl) rfl rfl rfl ?_
      | refine Jl.yd (Y.not rfl rfl) rfl rfl rfl ?_
      | refine Jl.yd (Y.arithN rfl rfl rfl rfl (by omega)) rfl rfl rfl ?_
      | refine Jl.yd (Y.arith64 rfl rfl rfl rfl) rfl rfl rfl ?_
      | refine Jl.yd (Y.loadA rfl rfl agg25 (by repeat (first | exact .head _ | refine .tail _ ?_)) (by rfl)) rfl rfl rfl ?_
      | refine Jl.alloc rfl rfl rfl rfl zero25 (fun gz => ?_)
      | refine Jl.storeA rfl rfl rfl rfl rfl sz25 (by repeat (first | exact .z | apply SetAt.s)) (by rfl) (by rfl) ?_
      | refine Jl.store1 rfl rfl rfl rfl rfl sz3 rfl (by repeat (first | exact .head _ | refine .tail _ ?_)) (by repeat (first | exact .z | apply PutAt.s)) (by repeat (first | exact .z | apply SetAt.s)) ?_
      | refine Jl.litN 5 #[.int .i64 1, .int .i64 240, .int .i64 300, .int .i64 480, .int .i64 4000] 3 rfl rfl rfl rfl (by intro a w; kernel_rfl) (fun g1 => ?_)
      | refine Jl.litN 4 #[.int .i64 100, .int .i64 1600, .int .i64 3000, .int .i64 10000] 3 rfl rfl rfl rfl (by intro a w; kernel_rfl) (fun g2 => ?_)
      | refine Jl.litN 6 #[.int .i64 0, .int .i64 49, .int .i64 50, .int .i64 99, .int .i64 100, .int .i64 400] 3 rfl rfl rfl rfl (by intro a w; kernel_rfl) (fun g3 => ?_)
      | refine Jl.callM (v := .int .i64 x1) (.any (Cur w0 g l0 s0_1 s0_2)) (.any (Cur w0 g l0 a1 s1)) rfl rfl rfl rfl en71 rfl (by with_reducible first | exact .z | exact .s .z | exact .s (.s .z) | exact .s (.s (.s .z)) | exact .s (.s (.s (.s .z))) | exact .s (.s (.s (.s (.s .z)))) | exact .s (.s (.s (.s (.s (.s .z))))) | exact .s (.s (.s (.s (.s (.s (.s .z))))))) (fun w hA hW hp => by with_reducible exact among_ hp (hW.fact (p := (fun W : World => Below w0.heap.size w0 W)) (by repeat (first | exact memH | refine memT ?_))) (Box_at hW (g := g1) (T' := 3) (cs := [.int .i64 1, .int .i64 240, .int .i64 300, .int .i64 480, .int .i64 4000]) (by repeat (first | exact memH | refine memT ?_))) (L := [1, 240, 300, 480, 4000]) ⟨rfl, by decide, rfl⟩ E1) ?_
      | refine Jl.callM (v := .int .i64 x2) (.any (Cur w0 g l0 a1 s1)) (.any (Cur w0 g l0 a2 s2)) rfl rfl rfl rfl en71 rfl (by with_reducible first | exact .z | exact .s .z | exact .s (.s .z) | exact .s (.s (.s .z)) | exact .s (.s (.s (.s .z))) | exact .s (.s (.s (.s (.s .z)))) | exact .s (.s (.s (.s (.s (.s .z))))) | exact .s (.s (.s (.s (.s (.s (.s .z))))))) (fun w hA hW hp => by with_reducible exact among_ hp (hW.fact (p := (fun W : World => Below w0.heap.size w0 W)) (by repeat (first | exact memH | refine memT ?_))) (Box_at hW (g := g2) (T' := 3) (cs := [.int .i64 100, .int .i64 1600, .int .i64 3000, .int .i64 10000]) (by repeat (first | exact memH | refine memT ?_))) (L := [100, 1600, 3000, 10000]) ⟨rfl, by decide, rfl⟩ E2) ?_
      | refine Jl.callM (v := .int .i64 x3) (.any (Cur w0 g l0 a2 s2)) (.any (Cur w0 g l0 a3 s3)) rfl rfl rfl rfl en71 rfl (by with_reducible first | exact .z | exact .s .z | exact .s (.s .z) | exact .s (.s (.s .z)) | exact .s (.s (.s (.s .z))) | exact .s (.s (.s (.s (.s .z)))) | exact .s (.s (.s (.s (.s (.s .z))))) | exact .s (.s (.s (.s (.s (.s (.s .z))))))) (fun w hA hW hp => by with_reducible exact among_ hp (hW.fact (p := (fun W : World => Below w0.heap.size w0 W)) (by repeat (first | exact memH | refine memT ?_))) (Box_at hW (g := g3) (T' := 3) (cs := [.int .i64 0, .int .i64 49, .int .i64 50, .int .i64 99, .int .i64 100, .int .i64 400]) (by repeat (first | exact memH | refine memT ?_))) (L := [0, 49, 50, 99, 100, 400]) ⟨rfl, by decide, rfl⟩ E3) ?_
      | refine Jl.callM (v := .int .i64 x4) (.any (Cur w0 g l0 a3 s3)) (.any (Cur w0 g l0 a4 s4)) rfl rfl rfl rfl en72 rfl (by with_reducible first | exact .z | exact .s .z | exact .s (.s .z) | exact .s (.s (.s .z)) | exact .s (.s (.s (.s .z))) | exact .s (.s (.s (.s (.s .z)))) | exact .s (.s (.s (.s (.s (.s .z))))) | exact .s (.s (.s (.s (.s (.s (.s .z))))))) (fun w hA hW hp => by with_reducible exact cur_ hp (hW.fact (p := (fun W : World => Below w0.heap.size w0 W)) (by repeat (first | exact memH | refine memT ?_))) (fun hI hB => spec_l1Cur_pick.calls g l0 a3 s3 4 x4 a4 s4 w0 w hI hB E4)) ?_
      | refine Jl.callM (v := .bool x5) (.any (Cur w0 g l0 a4 s4)) (.any (Cur w0 g l0 a5 s5)) rfl rfl rfl rfl en82 rfl (by with_reducible first | exact .z | exact .s .z | exact .s (.s .z) | exact .s (.s (.s .z)) | exact .s (.s (.s (.s .z))) | exact .s (.s (.s (.s (.s .z)))) | exact .s (.s (.s (.s (.s (.s .z))))) | exact .s (.s (.s (.s (.s (.s (.s .z))))))) (fun w hA hW hp => by with_reducible exact cur_ hp (hW.fact (p := (fun W : World => Below w0.heap.size w0 W)) (by repeat (first | exact memH | refine memT ?_))) (fun hI hB => spec_l1Cur_one.calls g l0 a4 s4 5 x5 a5 s5 w0 w hI hB E5)) ?_
      | refine Jl.callM (v := .int .i64 3) (.any (Cur w0 g l0 a5 s5)) (.any (Cur w0 g l0 a6 s6)) rfl rfl rfl rfl en72 rfl (by with_reducible first | exact .z | exact .s .z | exact .s (.s .z) | exact .s (.s (.s .z)) | exact .s (.s (.s (.s .z))) | exact .s (.s (.s (.s (.s .z)))) | exact .s (.s (.s (.s (.s (.s .z))))) | exact .s (.s (.s (.s (.s (.s (.s .z))))))) (fun w hA hW hp => by with_reducible exact cur_ hp (hW.fact (p := (fun W : World => Below w0.heap.size w0 W)) (by repeat (first | exact memH | refine memT ?_))) (fun hI hB => spec_l1Cur_pick.calls g l0 a5 s5 70 3 a6 s6 w0 w hI hB E6)) ?_
      | refine Jl.yd (Y.arith64 rfl rfl rfl rfl) rfl rfl rfl ?_
      | refine Jl.yd (build5 (us := [.int .i64 x1, .int .i64 x2, .int .i64 x3, .int .i64 (wrap64 (1 + x4)), .bool x5]) rfl rfl rfl rfl rfl rfl (fun w => bldA _ _ _ _ _ w)) rfl rfl rfl ?_
      | refine Jl.litN 2 #[.int .i64 0, .int .i64 5] 3 rfl rfl rfl rfl (by intro a w; kernel_rfl) (fun g4 => ?_)
      | refine Jl.callM (v := .int .i64 y) (.any (Cur w0 g l0 a6 s6)) (.any (Cur w0 g l0 a7 s7)) rfl rfl rfl rfl en71 rfl (by with_reducible first | exact .z | exact .s .z | exact .s (.s .z) | exact .s (.s (.s .z)) | exact .s (.s (.s (.s .z))) | exact .s (.s (.s (.s (.s .z)))) | exact .s (.s (.s (.s (.s (.s .z))))) | exact .s (.s (.s (.s (.s (.s (.s .z))))))) (fun w hA hW hp => by with_reducible exact among_ hp (hW.fact (p := (fun W : World => Below w0.heap.size w0 W)) (by repeat (first | exact memH | refine memT ?_))) (Box_at hW (g := g4) (T' := 3) (cs := [.int .i64 0, .int .i64 5]) (by repeat (first | exact memH | refine memT ?_))) (L := [0, 5]) ⟨rfl, by decide, rfl⟩ E7) ?_
      | refine Jl.yd (Y.fld0 rfl rfl fld25_0) rfl rfl rfl ?_
      | refine Jl.yd (Y.fld0 rfl rfl fld25_1) rfl rfl rfl ?_
      | refine Jl.yd (Y.fld0 rfl rfl fld25_2) rfl rfl rfl ?_
      | refine Jl.yd (Y.fld0 rfl rfl fld25_3) rfl rfl rfl ?_
      | refine Jl.splitG rfl rfl (fun h => ?_) (fun h => ?_))
    | (apply gateE; first
      | refine Jl.nil (Ej.go ?_ (fun _ _ h => h))
      | (refine Jl.nil (Ej.back (fun _ _ h => h) (by repeat (first | exact .refl | apply DropTo.tail)) ?_); repeat (first | exact trivial | refine ⟨rfl, ?_⟩)))
    | (apply gateC; first
      | refine Cj.block rfl ?_
      | refine Cj.ret rfl (outC (P := Try.prog) (fn := Try.f70) (R := Rr) (fun _ _ h => h) rfl rfl (by repeat (first | exact .head _ | refine .tail _ ?_)) Try.underlying25 rfl (by kernel_rfl) (fun w' hW => ⟨rfl, retC hW (by repeat (first | exact .nil | refine Pick.cons (by repeat (first | exact .z | apply OutAt.s)) ?_)) (hW.fact (p := (fun W : World => Below w0.heap.size w0 W)) (by repeat (first | exact memH | refine memT ?_)))⟩))
      | refine Cj.condF rfl rfl (Cj.skip rfl (Ej.go ?_ (fun _ _ h => h)))
      | (refine Cj.condF rfl rfl (Cj.skip rfl (Ej.back (fun _ _ h => h) (by repeat (first | exact .refl | apply DropTo.tail)) ?_)); repeat (first | exact trivial | refine ⟨rfl, ?_⟩))
      | refine Cj.condF rfl rfl ?_
      | refine Cj.condT rfl rfl ?_
      | refine Cj.exit rfl (Ej.go ?_ (fun _ _ h => h))
      | refine Cj.cond rfl rfl (fun h => ?_) (fun h => ?_)
      | refine Cj.skip rfl (Ej.go ?_ (fun _ _ h => h))
      | (refine Cj.skip rfl (Ej.back (fun _ _ h => h) (by repeat (first | exact .refl | apply DropTo.tail)) ?_); repeat (first | exact trivial | refine ⟨rfl, ?_⟩))
      | refine Cj.seq rfl ?_
      | refine Cj.region rfl ?_))
  rw [if_neg c3] at h
  injection h with h
  simp only [Prod.mk.injEq] at h
  obtain ⟨rfl, rfl, rfl, rfl, rfl, rfl, rfl⟩ := h
  repeat (first
    | (apply gateO; first
      | refine Jl.yd (Y.mv rfl rfl) rfl rfl rfl ?_
      | refine Jl.yd (Y.asg rfl rfl) rfl rfl rfl ?_
      | refine Jl.yd (Y.ext rfl rfl rfl) rfl rfl rfl ?_
      | refine Jl.yd (Y.pickT rfl rfl rfl) rfl rfl rfl ?_
      | refine Jl.yd (Y.pickF rfl rfl rfl) rfl rfl rfl ?_
      | refine Jl.off rfl rfl rfl ?_
      | refine Jl.yd (Y.cmpF rfl rfl rfl rfl (by omega)) rfl rfl rfl ?_
      | refine Jl.yd (Y.cmpT rfl rfl rfl rfl (by omega)) rfl rfl rfl ?_
      | refine Jl.yd (Y.neqB rfl rfl rfl Try.underlying4) rfl rfl rfl ?_
      | refine Jl.yd (Y.cmp rfl rfl rfl rfl) rfl rfl rfl ?_
      | refine Jl.yd (Y.not rfl rfl) rfl rfl rfl ?_
      | refine Jl.yd (Y.arithN rfl rfl rfl rfl (by omega)) rfl rfl rfl ?_
      | refine Jl.yd (Y.arith64 rfl rfl rfl rfl) rfl rfl rfl ?_
      | refine Jl.yd (Y.loadA rfl rfl agg25 (by repeat (first | exact .head _ | refine .tail _ ?_)) (by rfl)) rfl rfl rfl ?_
      | refine Jl.alloc rfl rfl rfl rfl zero25 (fun gz => ?_)
      | refine Jl.storeA rfl rfl rfl rfl rfl sz25 (by repeat (first | exact .z | apply SetAt.s)) (by rfl) (by rfl) ?_
      | refine Jl.store1 rfl rfl rfl rfl rfl sz3 rfl (by repeat (first | exact .head _ | refine .tail _ ?_)) (by repeat (first | exact .z | apply PutAt.s)) (by repeat (first | exact .z | apply SetAt.s)) ?_
      | refine Jl.litN 5 #[.int .i64 1, .int .i64 240, .int .i64 300, .int .i64 480, .int .i64 4000] 3 rfl rfl rfl rfl (by intro a w; kernel_rfl) (fun g1 => ?_)
      | refine Jl.litN 4 #[.int .i64 100, .int .i64 1600, .int .i64 3000, .int .i64 10000] 3 rfl rfl rfl rfl (by intro a w; kernel_rfl) (fun g2 => ?_)
      | refine Jl.litN 6 #[.int .i64 0, .int .i64 49, .int .i64 50, .int .i64 99, .int .i64 100, .int .i64 400] 3 rfl rfl rfl rfl (by intro a w; kernel_rfl) (fun g3 => ?_)
      | refine Jl.callM (v := .int .i64 x1) (.any (Cur w0 g l0 s0_1 s0_2)) (.any (Cur w0 g l0 a1 s1)) rfl rfl rfl rfl en71 rfl (by with_reducible first | exact .z | exact .s .z | exact .s (.s .z) | exact .s (.s (.s .z)) | exact .s (.s (.s (.s .z))) | exact .s (.s (.s (.s (.s .z)))) | exact .s (.s (.s (.s (.s (.s .z))))) | exact .s (.s (.s (.s (.s (.s (.s .z))))))) (fun w hA hW hp => by with_reducible exact among_ hp (hW.fact (p := (fun W : World => Below w0.heap.size w0 W)) (by repeat (first | exact memH | refine memT ?_))) (Box_at hW (g := g1) (T' := 3) (cs := [.int .i64 1, .int .i64 240, .int .i64 300, .int .i64 480, .int .i64 4000]) (by repeat (first | exact memH | refine memT ?_))) (L := [1, 240, 300, 480, 4000]) ⟨rfl, by decide, rfl⟩ E1) ?_
      | refine Jl.callM (v := .int .i64 x2) (.any (Cur w0 g l0 a1 s1)) (.any (Cur w0 g l0 a2 s2)) rfl rfl rfl rfl en71 rfl (by with_reducible first | exact .z | exact .s .z | exact .s (.s .z) | exact .s (.s (.s .z)) | exact .s (.s (.s (.s .z))) | exact .s (.s (.s (.s (.s .z)))) | exact .s (.s (.s (.s (.s (.s .z))))) | exact .s (.s (.s (.s (.s (.s (.s .z))))))) (fun w hA hW hp => by with_reducible exact among_ hp (hW.fact (p := (fun W : World => Below w0.heap.size w0 W)) (by repeat (first | exact memH | refine memT ?_))) (Box_at hW (g := g2) (T' := 3) (cs := [.int .i64 100, .int .i64 1600, .int .i64 3000, .int .i64 10000]) (by repeat (first | exact memH | refine memT ?_))) (L := [100, 1600, 3000, 10000]) ⟨rfl, by decide, rfl⟩ E2) ?_
      | refine Jl.callM (v := .int .i64 x3) (.any (Cur w0 g l0 a2 s2)) (.any (Cur w0 g l0 a3 s3)) rfl rfl rfl rfl en71 rfl (by with_reducible first | exact .z | exact .s .z | exact .s (.s .z) | exact .s (.s (.s .z)) | exact .s (.s (.s (.s .z))) | exact .s (.s (.s (.s (.s .z)))) | exact .s (.s (.s (.s (.s (.s .z))))) | exact .s (.s (.s (.s (.s (.s (.s .z))))))) (fun w hA hW hp => by with_reducible exact among_ hp (hW.fact (p := (fun W : World => Below w0.heap.size w0 W)) (by repeat (first | exact memH | refine memT ?_))) (Box_at hW (g := g3) (T' := 3) (cs := [.int .i64 0, .int .i64 49, .int .i64 50, .int .i64 99, .int .i64 100, .int .i64 400]) (by repeat (first | exact memH | refine memT ?_))) (L := [0, 49, 50, 99, 100, 400]) ⟨rfl, by decide, rfl⟩ E3) ?_
      | refine Jl.callM (v := .int .i64 x4) (.any (Cur w0 g l0 a3 s3)) (.any (Cur w0 g l0 a4 s4)) rfl rfl rfl rfl en72 rfl (by with_reducible first | exact .z | exact .s .z | exact .s (.s .z) | exact .s (.s (.s .z)) | exact .s (.s (.s (.s .z))) | exact .s (.s (.s (.s (.s .z)))) | exact .s (.s (.s (.s (.s (.s .z))))) | exact .s (.s (.s (.s (.s (.s (.s .z))))))) (fun w hA hW hp => by with_reducible exact cur_ hp (hW.fact (p := (fun W : World => Below w0.heap.size w0 W)) (by repeat (first | exact memH | refine memT ?_))) (fun hI hB => spec_l1Cur_pick.calls g l0 a3 s3 4 x4 a4 s4 w0 w hI hB E4)) ?_
      | refine Jl.callM (v := .bool x5) (.any (Cur w0 g l0 a4 s4)) (.any (Cur w0 g l0 a5 s5)) rfl rfl rfl rfl en82 rfl (by with_reducible first | exact .z | exact .s .z | exact .s (.s .z) | exact .s (.s (.s .z)) | exact .s (.s (.s (.s .z))) | exact .s (.s (.s (.s (.s .z)))) | exact .s (.s (.s (.s (.s (.s .z))))) | exact .s (.s (.s (.s (.s (.s (.s .z))))))) (fun w hA hW hp => by with_reducible exact cur_ hp (hW.fact (p := (fun W : World => Below w0.heap.size w0 W)) (by repeat (first | exact memH | refine memT ?_))) (fun hI hB => spec_l1Cur_one.calls g l0 a4 s4 5 x5 a5 s5 w0 w hI hB E5)) ?_
      | refine Jl.callM (v := .int .i64 x6) (.any (Cur w0 g l0 a5 s5)) (.any (Cur w0 g l0 a6 s6)) rfl rfl rfl rfl en72 rfl (by with_reducible first | exact .z | exact .s .z | exact .s (.s .z) | exact .s (.s (.s .z)) | exact .s (.s (.s (.s .z))) | exact .s (.s (.s (.s (.s .z)))) | exact .s (.s (.s (.s (.s (.s .z))))) | exact .s (.s (.s (.s (.s (.s (.s .z))))))) (fun w hA hW hp => by with_reducible exact cur_ hp (hW.fact (p := (fun W : World => Below w0.heap.size w0 W)) (by repeat (first | exact memH | refine memT ?_))) (fun hI hB => spec_l1Cur_pick.calls g l0 a5 s5 70 x6 a6 s6 w0 w hI hB E6)) ?_
      | refine Jl.yd (Y.arith64 rfl rfl rfl rfl) rfl rfl rfl ?_
      | refine Jl.yd (build5 (us := [.int .i64 x1, .int .i64 x2, .int .i64 x3, .int .i64 (wrap64 (1 + x4)), .bool x5]) rfl rfl rfl rfl rfl rfl (fun w => bldA _ _ _ _ _ w)) rfl rfl rfl ?_
      | refine Jl.yd (Y.fld0 rfl rfl fld25_0) rfl rfl rfl ?_
      | refine Jl.yd (Y.fld0 rfl rfl fld25_1) rfl rfl rfl ?_
      | refine Jl.yd (Y.fld0 rfl rfl fld25_2) rfl rfl rfl ?_
      | refine Jl.yd (Y.fld0 rfl rfl fld25_3) rfl rfl rfl ?_
      | refine Jl.splitG rfl rfl (fun h => ?_) (fun h => ?_))
    | (apply gateE; first
      | refine Jl.nil (Ej.go ?_ (fun _ _ h => h))
      | (refine Jl.nil (Ej.back (fun _ _ h => h) (by repeat (first | exact .refl | apply DropTo.tail)) ?_); repeat (first | exact trivial | refine ⟨rfl, ?_⟩)))
    | (apply gateC; first
      | refine Cj.block rfl ?_
      | refine Cj.ret rfl (outC (P := Try.prog) (fn := Try.f70) (R := Rr) (fun _ _ h => h) rfl rfl (by repeat (first | exact .head _ | refine .tail _ ?_)) Try.underlying25 rfl (by kernel_rfl) (fun w' hW => ⟨rfl, retC hW (by repeat (first | exact .nil | refine Pick.cons (by repeat (first | exact .z | apply OutAt.s)) ?_)) (hW.fact (p := (fun W : World => Below w0.heap.size w0 W)) (by repeat (first | exact memH | refine memT ?_)))⟩))
      | refine Cj.condF rfl rfl (Cj.skip rfl (Ej.go ?_ (fun _ _ h => h)))
      | (refine Cj.condF rfl rfl (Cj.skip rfl (Ej.back (fun _ _ h => h) (by repeat (first | exact .refl | apply DropTo.tail)) ?_)); repeat (first | exact trivial | refine ⟨rfl, ?_⟩))
      | refine Cj.condF rfl rfl ?_
      | refine Cj.condT rfl rfl ?_
      | refine Cj.exit rfl (Ej.go ?_ (fun _ _ h => h))
      | refine Cj.cond rfl rfl (fun h => ?_) (fun h => ?_)
      | refine Cj.skip rfl (Ej.go ?_ (fun _ _ h => h))
      | (refine Cj.skip rfl (Ej.back (fun _ _ h => h) (by repeat (first | exact .refl | apply DropTo.tail)) ?_); repeat (first | exact trivial | refine ⟨rfl, ?_⟩))
      | refine Cj.seq rfl ?_
      | refine Cj.region rfl ?_))
end AP
end SAL
end Go.Proofs.Ytembbdhhpblapaa.WK
namespace Go.Proofs.Ytembbdhhpblapaa.Q
open Go.RowKit Go.Proofs.YtembbdhhpblapaaW.PrintWords Go.Proofs.YtembbdhhpblapaaW.PrintLast Go.Proofs.YtembbdhhpblapaaW.PrintMore
theorem spec_l1Cur_appraisal.calls (g : Nat) (s0_0 : List Int) (s0_1 : Int) (s0_2 : Int) (r1 : Int) (r2 : Int) (r3 : Int) (r4 : Int) (r5 : Bool) (r6 : Int) (r7 : Int) (w0 w : World) (hI : IsS88 w0 w g s0_0 s0_1 s0_2) (hB : Below w0.heap.size w0 w) (h : spec_l1Cur_appraisal.f s0_0 s0_1 s0_2 = some (r1, r2, r3, r4, r5, r6, r7)) :
  Calls Try.prog 70 #[.pointer (some ⟨g, 0, none⟩)] w fun e w' => e = .returned (.agg #[.int .i64 r1, .int .i64 r2, .int .i64 r3, .int .i64 r4, .bool r5]) ∧ IsS88 w0 w' g s0_0 r6 r7 ∧ Below w0.heap.size w0 w' ∧ KeepBut w w' g none := WK.SAL.AP.appr_calls g s0_0 s0_1 s0_2 r1 r2 r3 r4 r5 r6 r7 w0 w hI hB h
end Go.Proofs.Ytembbdhhpblapaa.Q

namespace Go.Proofs.Ytembbdhhpblapaa.Q
open Go.RowKit Go.Proofs.YtembbdhhpblapaaW.PrintWords Go.Proofs.YtembbdhhpblapaaW.PrintLast Go.Proofs.YtembbdhhpblapaaW.PrintMore
attribute [local go_sem] max2_int min2_int max_two min_two max_three min_three max_four min_four
set_option linter.unusedVariables false
set_option linter.unusedSimpArgs false

/-! ### spec_l1Cur_sales: function 81 -/
mutual
def spec_l1Cur_sales.l0 : Nat → List (S40) → Int → Int → List Int → Int → Int → Option ((List (S40)) × Int × Int)
 | 0, _, _, _, _, _, _ => none
 | k + 1, x3, x4, x5, x1000, x1001, x1002 => if x5 > 0 then ((spec_l1Cur_appraisal.f x1000 x1001 x1002).bind fun bt444 => ((spec_l1Cur_among.f x1000 bt444.2.2.2.2.2.1 bt444.2.2.2.2.2.2 (([1, 50000, 900000, 1000000, 100000000] : List Int))).bind fun bt454 => ((spec_l1Cur_one.f x1000 bt454.2.1 bt454.2.2 2).bind fun bt458 => (if bt458.1 = true then ((spec_l1Cur_pick.f x1000 bt458.2.1 bt458.2.2 2).bind fun bt461 => ((spec_l1Cur_pick.f x1000 bt461.2.1 bt461.2.2 2).bind fun bt464 => (if x3.length < 2513169434916 then ((spec_l1Cur_among.f x1000 bt464.2.1 bt464.2.2 (([0, 0, 1, 5] : List Int))).bind fun bt473 => ((spec_l1Cur_pick.f x1000 bt473.2.1 bt473.2.2 60).bind fun bt476 => (spec_l1Cur_sales.l0 k (x3 ++ [(⟨x4, (⟨wrap64 (240 + (wrap64 (60 * bt461.1))), 1600, 10, wrap64 (1 + bt464.1), false⟩ : S25), bt454.1⟩ : S40)]) (wrap64 ((wrap64 (x4 + bt473.1)) - (wrap64 (Int.tdiv bt476.1 59)))) (wrap64 (x5 - 1)) x1000 bt476.2.1 bt476.2.2))) else (none)))) else (if x3.length < 2513169434916 then ((spec_l1Cur_among.f x1000 bt458.2.1 bt458.2.2 (([0, 0, 1, 5] : List Int))).bind fun bt485 => ((spec_l1Cur_pick.f x1000 bt485.2.1 bt485.2.2 60).bind fun bt488 => (spec_l1Cur_sales.l0 k (x3 ++ [(⟨x4, (⟨bt444.1, bt444.2.1, bt444.2.2.1, bt444.2.2.2.1, bt444.2.2.2.2.1⟩ : S25), bt454.1⟩ : S40)]) (wrap64 ((wrap64 (x4 + bt485.1)) - (wrap64 (Int.tdiv bt488.1 59)))) (wrap64 (x5 - 1)) x1000 bt488.2.1 bt488.2.2))) else (none)))))) else (if (x3.length : Int) = 0 then (some (x3, x1001, x1002)) else ((spec_l1Cur_pick.f x1000 x1001 x1002 40).bind fun bt491 => (if bt491.1 = 0 then (if 0 < (x3.length : Int) then ((spec_l1Cur_among.f x1000 bt491.2.1 bt491.2.2 (([0, 100000001] : List Int))).bind fun bt499 => (some ((x3.set (0 : Int).toNat (⟨(rd_T40 x3 0).f0, (⟨(rd_T40 x3 0).f1.f0, (rd_T40 x3 0).f1.f1, (rd_T40 x3 0).f1.f2, (rd_T40 x3 0).f1.f3, (rd_T40 x3 0).f1.f4⟩ : S25), bt499.1⟩ : S40)), bt499.2.1, bt499.2.2))) else (none)) else (if bt491.1 = 1 then (spec_l1Cur_sales.l1 k x3 x1000 bt491.2.1 bt491.2.2) else (if bt491.1 = 2 then (if 0 < (x3.length : Int) then ((spec_l1Cur_among.f x1000 bt491.2.1 bt491.2.2 (([1899, 2101] : List Int))).bind fun bt515 => (some ((x3.set (0 : Int).toNat (⟨bt515.1, (⟨(rd_T40 x3 0).f1.f0, (rd_T40 x3 0).f1.f1, (rd_T40 x3 0).f1.f2, (rd_T40 x3 0).f1.f3, (rd_T40 x3 0).f1.f4⟩ : S25), (rd_T40 x3 0).f2⟩ : S40)), bt515.2.1, bt515.2.2))) else (none)) else (some (x3, bt491.2.1, bt491.2.2)))))))
def spec_l1Cur_sales.l1 : Nat → List (S40) → List Int → Int → Int → Option ((List (S40)) × Int × Int)
 | 0, _, _, _, _ => none
 | k + 1, x3, x1000, x1001, x1002 => (spec_l1Cur_pick.f x1000 x1001 x1002 2).bind fun bt503 => (if (x3.length : Int) < (wrap64 (10 + bt503.1)) then (if 0 ≤ (wrap64 ((x3.length : Int) - 1)) then (if (wrap64 ((x3.length : Int) - 1)) < (x3.length : Int) then (if x3.length < 2513169434916 then (spec_l1Cur_sales.l1 k (x3 ++ [(⟨(rd_T40 x3 (wrap64 ((x3.length : Int) - 1))).f0, (⟨(rd_T40 x3 (wrap64 ((x3.length : Int) - 1))).f1.f0, (rd_T40 x3 (wrap64 ((x3.length : Int) - 1))).f1.f1, (rd_T40 x3 (wrap64 ((x3.length : Int) - 1))).f1.f2, (rd_T40 x3 (wrap64 ((x3.length : Int) - 1))).f1.f3, (rd_T40 x3 (wrap64 ((x3.length : Int) - 1))).f1.f4⟩ : S25), (rd_T40 x3 (wrap64 ((x3.length : Int) - 1))).f2⟩ : S40)]) x1000 bt503.2.1 bt503.2.2) else (none)) else (none)) else (none)) else (some (x3, bt503.2.1, bt503.2.2)))
end
def spec_l1Cur_sales.f (k : Nat) (s0_0 : List Int) (s0_1 : Int) (s0_2 : Int) : Option ((List (S40)) × Int × Int) := (spec_l1Cur_among.f s0_0 s0_1 s0_2 (([1900, 1990, 2090] : List Int))).bind fun bt438 => ((spec_l1Cur_pick.f s0_0 bt438.2.1 bt438.2.2 8).bind fun bt441 => (spec_l1Cur_sales.l0 k (([] : List (S40))) bt438.1 bt441.1 s0_0 bt441.2.1 bt441.2.2))
end Go.Proofs.Ytembbdhhpblapaa.Q
namespace Go.Proofs.Ytembbdhhpblapaa.WK
open Go Go.RowKit Go.Proofs.Ytembbdhhpblapaa.Q Go.Proofs.YtembbdhhpblapaaW.PrintWords Go.Proofs.YtembbdhhpblapaaW.SL
set_option linter.unusedSimpArgs false
set_option linter.unusedVariables false
set_option maxRecDepth 100000
namespace SAL
theorem agg25 : AggT Try.prog 25 5 := ⟨by kernel_rfl⟩
theorem agg40 : AggT Try.prog 40 7 := ⟨by kernel_rfl⟩
theorem sz25 : SzT Try.prog 25 5 := ⟨by kernel_rfl⟩
theorem sz40 : SzT Try.prog 40 7 := ⟨by kernel_rfl⟩
theorem sz3 : SzT Try.prog 3 1 := ⟨by kernel_rfl⟩
theorem sc3 : ScT Try.prog 3 := ⟨by kernel_rfl⟩
theorem fld40_0 : FldT Try.prog 40 0 0 := ⟨by kernel_rfl⟩
theorem fld40_1 : FldT Try.prog 40 1 1 := ⟨by kernel_rfl⟩
theorem fld40_2 : FldT Try.prog 40 2 6 := ⟨by kernel_rfl⟩
theorem zero40 : ZeroT Try.prog 40 [.int .i64 0, .int .i64 0, .int .i64 0, .int .i64 0, .int .i64 0, .bool false, .int .i64 0] := ⟨by kernel_rfl⟩
theorem zero25 : ZeroT Try.prog 25 [.int .i64 0, .int .i64 0, .int .i64 0, .int .i64 0, .bool false] := ⟨by kernel_rfl⟩
theorem el46 : ElT Try.prog 46 40 7 := ⟨by kernel_rfl⟩
theorem en70 : Ent Try.prog 70 := ⟨enters_of Try.func70 (by kernel_rfl) rfl⟩
theorem en71 : Ent Try.prog 71 := ⟨enters_of Try.func71 (by kernel_rfl) rfl⟩
theorem en72 : Ent Try.prog 72 := ⟨enters_of Try.func72 (by kernel_rfl) rfl⟩
theorem en82 : Ent Try.prog 82 := ⟨enters_of Try.func82 (by kernel_rfl) rfl⟩
def enc (x : S40) : List Value := [.int .i64 x.f0, .int .i64 x.f1.f0, .int .i64 x.f1.f1, .int .i64 x.f1.f2, .int .i64 x.f1.f3, .bool x.f1.f4, .int .i64 x.f2]
theorem encM (w : World) (b : Nat) (ok : Nat → Prop) (x : S40) (cs : List Value) : k40.M w b ok x cs ↔ cs = enc x := ⟨fun h => k40_openM h, fun h => h ▸ k40_mkM w b ok x⟩
theorem encO (x : S40) : ∀ u ∈ enc x, u.oneCell' = true := fun u hu => by
  simp only [enc, List.mem_cons, List.not_mem_nil, or_false] at hu
  rcases hu with rfl | rfl | rfl | rfl | rfl | rfl | rfl <;> rfl
theorem rowRaw {w : World} {A : Nat → Prop} {v : Value} {xs : List S40} : (Item.row k40 40 0 v xs).p w A ↔ (Item.row (Kd.raw 7) 40 0 v (xs.map enc)).p w A := row_raw rfl encM (fun _ => rfl) encO
theorem ap46 : ApT Try.prog 46 40 7 56 := apT_of (z := .agg #[.int .i64 0, .int .i64 0, .int .i64 0, .int .i64 0, .int .i64 0, .bool false, .int .i64 0]) Try.underlying46 (by kernel_rfl) rfl (by decide)
theorem fill7 (a b c d e f g z0 z1 z2 z3 z4 z5 z6 : Value) : Instr.fill (fun i => some (i * 7, 7)) ((Array.range 7).map (fun j => [z0, z1, z2, z3, z4, z5, z6][j % [z0, z1, z2, z3, z4, z5, z6].length]?.getD default)) [(0, .agg #[a, b, c, d, e, f, g])] = some #[a, b, c, d, e, f, g] := by
  have h : (Array.range 7).map (fun j => [z0, z1, z2, z3, z4, z5, z6][j % [z0, z1, z2, z3, z4, z5, z6].length]?.getD default) = #[z0, z1, z2, z3, z4, z5, z6] := by
    apply Array.toList_inj.1
    rw [Array.toList_map, Array.toList_range]
    rfl
  rw [h]
  simp [Instr.fill, Value.cells, Array.zipIdx]
theorem bld40 (y e0 e1 e2 e3 : Int) (e4 : Bool) (v : Int) (w : World) : (Instr.build 40 #[(0, .int .i64 y), (1, .agg #[.int .i64 e0, .int .i64 e1, .int .i64 e2, .int .i64 e3, .bool e4]), (2, .int .i64 v)]).run Try.prog w = .ok (.agg ([.int .i64 y, .int .i64 e0, .int .i64 e1, .int .i64 e2, .int .i64 e3, .bool e4, .int .i64 v] : List Value).toArray) w := by kernel_rfl
theorem bld25 (a b c d : Int) (w : World) : (Instr.build 25 #[(0, .int .i64 a), (1, .int .i64 b), (2, .int .i64 c), (3, .int .i64 d)]).run Try.prog w = .ok (.agg ([.int .i64 a, .int .i64 b, .int .i64 c, .int .i64 d, .bool false] : List Value).toArray) w := by kernel_rfl
theorem ret_ {w0 w w' : World} {g : Nat} {l : List Int} {a s : Int} {v : Value} {x : List S40} {its : List Go.Proofs.YtembbdhhpblapaaW.SL.Item} {ps : List (World → Prop)} (hW : WS ⟨w, fun k => k = g⟩ w' its ps) (hpk : Pick its [.row k40 40 0 v x, .any (Cur w0 g l a s)]) (hB : Below w0.heap.size w0 w') :
    Kd.R k40 40 w' w.heap.size (fun _ => True) v x ∧ IsS88 w0 w' g l a s ∧ Below w0.heap.size w0 w' ∧ KeepBut w w' g none := by
  obtain ⟨h1, T, ⟨A, C, g1, ⟨A2, C2, q1, _, q3, _⟩, g3, g4⟩, h3, _⟩ := hW.pick hpk
  refine ⟨Kd.R_mono (Kd.R_raise (b' := w.heap.size) (fun w ok x cs h => (encM _ _ _ _ _).2 ((encM _ _ _ _ _).1 h)) g1.1 (fun k hk => ?_)) (fun _ _ => trivial), q1.1, hB, h1.size, fun k hk hn _ => h1.block k hk hn⟩
  replace hk := g1.1.1 k hk
  rcases h3 k ((g3 k).2 (.inl hk)) with h | h
  · exact absurd ((q3 k).2 (.inl ((q1.2 k).2 h))) (g4 k hk)
  · exact h
/-- A row that is not empty, as its block. -/
theorem row_box {w : World} {A : Nat → Prop} {v : Value} {x : List S40} (h : (Item.row k40 40 0 v x).p w A) (hx : 0 < x.length) : ∃ hd c cs, v = .slice (some ⟨hd, 0, none⟩) x.length c ∧ (Item.box hd 40 cs).p w (fun k => k = hd) ∧ A hd ∧ cs.length = c * 7 ∧ x.length ≤ c ∧ c ≤ maxLen ∧ ∀ j us, (x.map enc)[j]? = some us → rowOf 7 cs j = us ∧ us.length = 7 ∧ ∀ u ∈ us, u.oneCell' = true := by
  rcases row_form h.1 with ⟨c, rfl, rfl⟩ | ⟨hd, c, rfl⟩
  · simp at hx
  · obtain ⟨cs, h1, h2, _, h4, h5, h6, h7⟩ := raw_box (rowRaw.1 h).1
    exact ⟨hd, c, cs, rfl, ⟨h1, fun _ => Iff.rfl⟩, h.1.1 hd rfl, h2, h5, h6, h7⟩
theorem box_row {w : World} {A : Nat → Prop} {hd c : Nat} {cs : List Value} {x : List S40} (h : (Item.box hd 40 cs).p w A) (h2 : cs.length = c * 7) (h5 : x.length ≤ c) (h6 : c ≤ maxLen) (h7 : ∀ j us, (x.map enc)[j]? = some us → rowOf 7 cs j = us ∧ us.length = 7 ∧ ∀ u ∈ us, u.oneCell' = true) : (Item.row k40 40 0 (.slice (some ⟨hd, 0, none⟩) x.length c) x).p w A :=
  rowRaw.2 ⟨box_raw h.1 h2 (Nat.zero_le _) (List.length_map ..) h5 h6 ((h.2 hd).2 rfl) h7, fun k hk => by rw [(h.2 k).1 hk]; exact blk_lt h.1⟩
theorem set_rows {cs : List Value} {x : List S40} {p : S40} {c : Nat} (hx : 0 < x.length) (h2 : cs.length = c * 7) (h5 : x.length ≤ c) (h7 : ∀ j us, (x.map enc)[j]? = some us → rowOf 7 cs j = us ∧ us.length = 7 ∧ ∀ u ∈ us, u.oneCell' = true) : ∀ j us, ((x.set 0 p).map enc)[j]? = some us → rowOf 7 (wr cs 0 (enc p)) j = us ∧ us.length = 7 ∧ ∀ u ∈ us, u.oneCell' = true := by
  intro j us hj
  have hl : 0 * 7 + (enc p).length ≤ cs.length := by rw [h2]; show 0 * 7 + 7 ≤ c * 7; omega
  rw [List.map_set] at hj
  cases j with
  | zero =>
    rw [List.getElem?_set_self (by simpa using hx)] at hj
    injection hj with hj
    subst hj
    exact ⟨rowOf_wr_eq (i := 0) rfl hl, rfl, encO p⟩
  | succ j =>
    rw [List.getElem?_set_ne (by omega)] at hj
    obtain ⟨e1, e2, e3⟩ := h7 (j + 1) us hj
    exact ⟨(rowOf_wr_gt (sz := 7) (i := 0) hl (Nat.le_refl 7) (by omega)).trans e1, e2, e3⟩
theorem retB {w0 w w' : World} {g hd n c : Nat} {l : List Int} {a s : Int} {cs : List Value} {x : List S40} {its : List Go.Proofs.YtembbdhhpblapaaW.SL.Item} {ps : List (World → Prop)} (hW : WS ⟨w, fun k => k = g⟩ w' its ps) (hpk : Pick its [.box hd 40 cs, .any (Cur w0 g l a s)]) (hB : Below w0.heap.size w0 w') (hn : n = x.length) (h2 : cs.length = c * 7) (h5 : x.length ≤ c) (h6 : c ≤ maxLen) (h7 : ∀ j us, (x.map enc)[j]? = some us → rowOf 7 cs j = us ∧ us.length = 7 ∧ ∀ u ∈ us, u.oneCell' = true) :
    Kd.R k40 40 w' w.heap.size (fun _ => True) (.slice (some ⟨hd, 0, none⟩) n c) x ∧ IsS88 w0 w' g l a s ∧ Below w0.heap.size w0 w' ∧ KeepBut w w' g none := by
  subst hn
  exact ret_ ((hW.pick hpk).itemAs (n := 0) (i' := .row k40 40 0 (.slice (some ⟨hd, 0, none⟩) x.length c) x) rfl (fun A hA => box_row hA h2 h5 h6 h7)) (by repeat (first | exact .nil | refine Pick.cons (by repeat (first | exact .z | apply OutAt.s)) ?_)) hB
set_option maxHeartbeats 8000000 in
theorem sales_calls (k : Nat) (g : Nat) (l0 : List Int) (s0_1 : Int) (s0_2 : Int) (r1 : List (S40)) (r2 : Int) (r3 : Int) (w0 w : World) (hI : IsS88 w0 w g l0 s0_1 s0_2) (hB : Below w0.heap.size w0 w) (h : spec_l1Cur_sales.f k l0 s0_1 s0_2 = some (r1, r2, r3)) :
  Calls Try.prog 81 #[.pointer (some ⟨g, 0, none⟩)] w fun e w' => ∃ v0_ : Value, e = .returned (v0_) ∧ Kd.R k40 40 w' w.heap.size (fun _ => True) v0_ r1 ∧ IsS88 w0 w' g l0 r2 r3 ∧ Below w0.heap.size w0 w' ∧ KeepBut w w' g none := by
  obtain ⟨⟨y0, a1, s1⟩, E1, h⟩ := Option.bind_eq_some_iff.1 h
  obtain ⟨⟨n0, a2, s2⟩, E2, h⟩ := Option.bind_eq_some_iff.1 h
  dsimp only at E2 h
  let Rr : Ending → World → Prop := fun e w' => ∃ v0_ : Value, e = .returned (v0_) ∧ Kd.R k40 40 w' w.heap.size (fun _ => True) v0_ r1 ∧ IsS88 w0 w' g l0 r2 r3 ∧ Below w0.heap.size w0 w' ∧ KeepBut w w' g none
  refine enterS (S := fun k => k = g) (args := [.pointer (some ⟨g, 0, none⟩)]) [.any (Cur w0 g l0 s0_1 s0_2)] [(fun W : World => Below w0.heap.size w0 W)] (Own.single ⟨hI, fun _ => Iff.rfl⟩) (fun p hp => by rw [List.mem_singleton.1 hp]; exact sta_ hB hI.ge) Try.func81 rfl rfl ?_
  show Cj Try.prog _ _ _ (bodyPost Try.prog Try.f81 Rr) _ _ _
  repeat (first
    | (apply gateO; first
      | refine Jl.yd (Y.mv rfl rfl) rfl rfl rfl ?_
      | refine Jl.yd (Y.asg rfl rfl) rfl rfl rfl ?_
      | refine Jl.yd (Y.ext rfl rfl rfl) rfl rfl rfl ?_
      | refine Jl.yd (Y.pickT rfl rfl rfl) rfl rfl rfl ?_
      | refine Jl.yd (Y.pickF rfl rfl rfl) rfl rfl rfl ?_
      | refine Jl.off rfl rfl rfl ?_
      | refine Jl.yd (Y.cmpF rfl rfl rfl rfl (by omega)) rfl rfl rfl ?_
      | refine Jl.yd (Y.cmpT rfl rfl rfl rfl (by omega)) rfl rfl rfl ?_
      | refine Jl.yd (Y.neqB rfl rfl rfl Try.underlying4) rfl rfl rfl ?_
      | refine Jl.yd (Y.cmp rfl rfl rfl rfl) rfl rfl rfl ?_
      | refine Jl.yd (Y.not rfl rfl) rfl rfl rfl ?_
      | refine Jl.yd (Y.arithN rfl rfl rfl rfl (by omega)) rfl rfl rfl ?_
      | refine Jl.yd (Y.arith64 rfl rfl rfl rfl) rfl rfl rfl ?_
      | refine Jl.lit0 k40 rfl rfl rfl rfl el46 (fun g0 => ?_)
      | refine Jl.litN 3 #[.int .i64 1900, .int .i64 1990, .int .i64 2090] 3 rfl rfl rfl rfl (by intro a w; kernel_rfl) (fun g1 => ?_)
      | refine Jl.callM (v := .int .i64 y0) (.any (Cur w0 g l0 s0_1 s0_2)) (.any (Cur w0 g l0 a1 s1)) rfl rfl rfl rfl en71 rfl (by with_reducible first | exact .z | exact .s .z | exact .s (.s .z) | exact .s (.s (.s .z)) | exact .s (.s (.s (.s .z))) | exact .s (.s (.s (.s (.s .z)))) | exact .s (.s (.s (.s (.s (.s .z))))) | exact .s (.s (.s (.s (.s (.s (.s .z))))))) (fun w hA hW hp => by with_reducible exact among_ hp (hW.fact (p := (fun W : World => Below w0.heap.size w0 W)) (by repeat (first | exact memH | refine memT ?_))) (Box_at hW (g := g1) (T' := 3) (cs := [.int .i64 1900, .int .i64 1990, .int .i64 2090]) (by repeat (first | exact memH | refine memT ?_))) (L := [1900, 1990, 2090]) ⟨rfl, by decide, rfl⟩ E1) ?_
      | refine Jl.callM (v := .int .i64 n0) (.any (Cur w0 g l0 a1 s1)) (.any (Cur w0 g l0 a2 s2)) rfl rfl rfl rfl en72 rfl (by with_reducible first | exact .z | exact .s .z | exact .s (.s .z) | exact .s (.s (.s .z)) | exact .s (.s (.s (.s .z))) | exact .s (.s (.s (.s (.s .z)))) | exact .s (.s (.s (.s (.s (.s .z))))) | exact .s (.s (.s (.s (.s (.s (.s .z))))))) (fun w hA hW hp => by with_reducible exact cur_ hp (hW.fact (p := (fun W : World => Below w0.heap.size w0 W)) (by repeat (first | exact memH | refine memT ?_))) (fun hI hB => spec_l1Cur_pick.calls g l0 a1 s1 8 n0 a2 s2 w0 w hI hB E2)) ?_
      | refine Jl.splitG rfl rfl (fun h => ?_) (fun h => ?_))
    | (apply gateE; first
      | refine Jl.nil (Ej.go ?_ (fun _ _ h => h))
      | (refine Jl.nil (Ej.back (fun _ _ h => h) (by repeat (first | exact .refl | apply DropTo.tail)) ?_); repeat (first | exact trivial | refine ⟨rfl, ?_⟩)))
    | (apply gateC; first
      | refine Cj.block rfl ?_
      | refine Cj.condF rfl rfl (Cj.skip rfl (Ej.go ?_ (fun _ _ h => h)))
      | (refine Cj.condF rfl rfl (Cj.skip rfl (Ej.back (fun _ _ h => h) (by repeat (first | exact .refl | apply DropTo.tail)) ?_)); repeat (first | exact trivial | refine ⟨rfl, ?_⟩))
      | refine Cj.condF rfl rfl ?_
      | refine Cj.condT rfl rfl ?_
      | refine Cj.exit rfl (Ej.go ?_ (fun _ _ h => h))
      | refine Cj.cond rfl rfl (fun h => ?_) (fun h => ?_)
      | refine Cj.skip rfl (Ej.go ?_ (fun _ _ h => h))
      | (refine Cj.skip rfl (Ej.back (fun _ _ h => h) (by repeat (first | exact .refl | apply DropTo.tail)) ?_); repeat (first | exact trivial | refine ⟨rfl, ?_⟩))
      | refine Cj.seq rfl ?_
      | refine Cj.region rfl ?_))
  refine Cj.loopP (ι := Nat × List S40 × Int × Int × Int × Int × Option Addr × Nat) (fun i => spec_l1Cur_sales.l0 i.1 i.2.1 i.2.2.1 i.2.2.2.1 l0 i.2.2.2.2.1 i.2.2.2.2.2.1 = some (r1, r2, r3) ∧ i.2.1.length ≤ i.2.2.2.2.2.2.2) (fun i => [(0, .pointer (some ⟨g, 0, none⟩)), (3, .slice i.2.2.2.2.2.2.1 (i.2.1 : List S40).length i.2.2.2.2.2.2.2), (4, .int .i64 i.2.2.1), (5, .int .i64 i.2.2.2.1)]) (fun i => [.row k40 40 0 (.slice i.2.2.2.2.2.2.1 (i.2.1 : List S40).length i.2.2.2.2.2.2.2) i.2.1, .any (Cur w0 g l0 i.2.2.2.2.1 i.2.2.2.2.2.1)]) (fun _ => [(fun W : World => Below w0.heap.size w0 W)]) (fun i => i.1) rfl (k, [], y0, n0, a2, s2, some ⟨g0, 0, none⟩, 0) ⟨h, Nat.zero_le _⟩ ⟨rfl, rfl, rfl, rfl, trivial⟩ (by repeat (first | exact .nil | refine Pick.cons (by repeat (first | exact .z | apply OutAt.s)) ?_)) (fun p hp => hp) (fun i hi => ?_)
  obtain ⟨k, x, y, n, a, s, A, c⟩ := i
  dsimp only at hi ⊢
  obtain ⟨H, hxc⟩ := hi
  cases k with
  | zero => exact absurd H (by simp [spec_l1Cur_sales.l0])
  | succ k =>
    simp only [spec_l1Cur_sales.l0] at H
    by_cases hn : n > 0
    · rw [if_pos hn] at H
      obtain ⟨⟨e0, e1, e2, e3, e4, b1, u1⟩, F1, H⟩ := Option.bind_eq_some_iff.1 H
      obtain ⟨⟨v, b2, u2⟩, F2, H⟩ := Option.bind_eq_some_iff.1 H
      obtain ⟨⟨o, b3, u3⟩, F3, H⟩ := Option.bind_eq_some_iff.1 H
      dsimp only at F2 F3 H
      cases o with
      | true =>
        rw [if_pos rfl] at H
        obtain ⟨⟨p, b4, u4⟩, F4, H⟩ := Option.bind_eq_some_iff.1 H
        obtain ⟨⟨q, b5, u5⟩, F5, H⟩ := Option.bind_eq_some_iff.1 H
        dsimp only at F4 F5 H
        by_cases hb : x.length < 2513169434916
        · rw [if_pos hb] at H
          obtain ⟨⟨u, b6, u6⟩, F6, H⟩ := Option.bind_eq_some_iff.1 H
          obtain ⟨⟨r, b7, u7⟩, F7, H⟩ := Option.bind_eq_some_iff.1 H
          dsimp only at F6 F7 H
          repeat (first
    | (apply gateO; first
      | refine Jl.yd (Y.mv rfl rfl) rfl rfl rfl ?_
      | refine Jl.yd (Y.asg rfl rfl) rfl rfl rfl ?_
      | refine Jl.yd (Y.ext rfl rfl rfl) rfl rfl rfl ?_
      | refine Jl.yd (Y.pickT rfl rfl rfl) rfl rfl rfl ?_
      | refine Jl.yd (Y.pickF rfl rfl rfl) rfl rfl rfl ?_
      | refine Jl.off rfl rfl rfl ?_
      | refine Jl.yd (Y.cmpF rfl rfl rfl rfl (by omega)) rfl rfl rfl ?_
      | refine Jl.yd (Y.cmpT rfl rfl rfl rfl (by omega)) rfl rfl rfl ?_
      | refine Jl.yd (Y.neqB rfl rfl rfl Try.underlying4) rfl rfl rfl ?_
      | refine Jl.yd (Y.cmp rfl rfl rfl rfl) rfl rfl rfl ?_
      | refine Jl.yd (Y.not rfl rfl) rfl rfl rfl ?_
      | refine Jl.yd (Y.arithN rfl rfl rfl rfl (by omega)) rfl rfl rfl ?_
      | refine Jl.yd (Y.arith64 rfl rfl rfl rfl) rfl rfl rfl ?_
      | refine Jl.yd (Y.loadA rfl rfl agg25 (by repeat (first | exact .head _ | refine .tail _ ?_)) (by rfl)) rfl rfl rfl ?_
      | refine Jl.yd (Y.loadA rfl rfl agg40 (by repeat (first | exact .head _ | refine .tail _ ?_)) (by rfl)) rfl rfl rfl ?_
      | refine Jl.yd (Y.fld0 rfl rfl fld40_1) rfl rfl rfl ?_
      | refine Jl.alloc rfl rfl rfl rfl zero40 (fun gz => ?_)
      | refine Jl.storeA rfl rfl rfl rfl rfl sz40 (by repeat (first | exact .z | apply SetAt.s)) (by rfl) (by rfl) ?_
      | refine Jl.yd (Y.lenS Try.underlying46 rfl rfl rfl) rfl rfl rfl ?_
      | refine Jl.litN 5 #[.int .i64 1, .int .i64 50000, .int .i64 900000, .int .i64 1000000, .int .i64 100000000] 3 rfl rfl rfl rfl (by intro a w; kernel_rfl) (fun g2 => ?_)
      | refine Jl.litN 4 #[.int .i64 0, .int .i64 0, .int .i64 1, .int .i64 5] 3 rfl rfl rfl rfl (by intro a w; kernel_rfl) (fun g3 => ?_)
      | refine Jl.callM (v := .agg #[.int .i64 e0, .int .i64 e1, .int .i64 e2, .int .i64 e3, .bool e4]) (.any (Cur w0 g l0 a s)) (.any (Cur w0 g l0 b1 u1)) rfl rfl rfl rfl en70 rfl (by with_reducible first | exact .z | exact .s .z | exact .s (.s .z) | exact .s (.s (.s .z)) | exact .s (.s (.s (.s .z))) | exact .s (.s (.s (.s (.s .z)))) | exact .s (.s (.s (.s (.s (.s .z))))) | exact .s (.s (.s (.s (.s (.s (.s .z))))))) (fun w hA hW hp => by with_reducible exact cur_ hp (hW.fact (p := (fun W : World => Below w0.heap.size w0 W)) (by repeat (first | exact memH | refine memT ?_))) (fun hI hB => spec_l1Cur_appraisal.calls g l0 a s e0 e1 e2 e3 e4 b1 u1 w0 w hI hB F1)) ?_
      | refine Jl.callM (v := .int .i64 v) (.any (Cur w0 g l0 b1 u1)) (.any (Cur w0 g l0 b2 u2)) rfl rfl rfl rfl en71 rfl (by with_reducible first | exact .z | exact .s .z | exact .s (.s .z) | exact .s (.s (.s .z)) | exact .s (.s (.s (.s .z))) | exact .s (.s (.s (.s (.s .z)))) | exact .s (.s (.s (.s (.s (.s .z))))) | exact .s (.s (.s (.s (.s (.s (.s .z))))))) (fun w hA hW hp => by with_reducible exact among_ hp (hW.fact (p := (fun W : World => Below w0.heap.size w0 W)) (by repeat (first | exact memH | refine memT ?_))) (Box_at hW (g := g2) (T' := 3) (cs := [.int .i64 1, .int .i64 50000, .int .i64 900000, .int .i64 1000000, .int .i64 100000000]) (by repeat (first | exact memH | refine memT ?_))) (L := [1, 50000, 900000, 1000000, 100000000]) ⟨rfl, by decide, rfl⟩ F2) ?_
      | refine Jl.yd (Y.arith64 rfl rfl rfl rfl) rfl rfl rfl ?_
      | refine Jl.callM (v := .bool true) (.any (Cur w0 g l0 b2 u2)) (.any (Cur w0 g l0 b3 u3)) rfl rfl rfl rfl en82 rfl (by with_reducible first | exact .z | exact .s .z | exact .s (.s .z) | exact .s (.s (.s .z)) | exact .s (.s (.s (.s .z))) | exact .s (.s (.s (.s (.s .z)))) | exact .s (.s (.s (.s (.s (.s .z))))) | exact .s (.s (.s (.s (.s (.s (.s .z))))))) (fun w hA hW hp => by with_reducible exact cur_ hp (hW.fact (p := (fun W : World => Below w0.heap.size w0 W)) (by repeat (first | exact memH | refine memT ?_))) (fun hI hB => spec_l1Cur_one.calls g l0 b2 u2 2 true b3 u3 w0 w hI hB F3)) ?_
      | refine Jl.callM (v := .int .i64 p) (.any (Cur w0 g l0 b3 u3)) (.any (Cur w0 g l0 b4 u4)) rfl rfl rfl rfl en72 rfl (by with_reducible first | exact .z | exact .s .z | exact .s (.s .z) | exact .s (.s (.s .z)) | exact .s (.s (.s (.s .z))) | exact .s (.s (.s (.s (.s .z)))) | exact .s (.s (.s (.s (.s (.s .z))))) | exact .s (.s (.s (.s (.s (.s (.s .z))))))) (fun w hA hW hp => by with_reducible exact cur_ hp (hW.fact (p := (fun W : World => Below w0.heap.size w0 W)) (by repeat (first | exact memH | refine memT ?_))) (fun hI hB => spec_l1Cur_pick.calls g l0 b3 u3 2 p b4 u4 w0 w hI hB F4)) ?_
      | refine Jl.callM (v := .int .i64 q) (.any (Cur w0 g l0 b4 u4)) (.any (Cur w0 g l0 b5 u5)) rfl rfl rfl rfl en72 rfl (by with_reducible first | exact .z | exact .s .z | exact .s (.s .z) | exact .s (.s (.s .z)) | exact .s (.s (.s (.s .z))) | exact .s (.s (.s (.s (.s .z)))) | exact .s (.s (.s (.s (.s (.s .z))))) | exact .s (.s (.s (.s (.s (.s (.s .z))))))) (fun w hA hW hp => by with_reducible exact cur_ hp (hW.fact (p := (fun W : World => Below w0.heap.size w0 W)) (by repeat (first | exact memH | refine memT ?_))) (fun hI hB => spec_l1Cur_pick.calls g l0 b4 u4 2 q b5 u5 w0 w hI hB F5)) ?_
      | refine Jl.callM (v := .int .i64 u) (.any (Cur w0 g l0 b5 u5)) (.any (Cur w0 g l0 b6 u6)) rfl rfl rfl rfl en71 rfl (by with_reducible first | exact .z | exact .s .z | exact .s (.s .z) | exact .s (.s (.s .z)) | exact .s (.s (.s (.s .z))) | exact .s (.s (.s (.s (.s .z)))) | exact .s (.s (.s (.s (.s (.s .z))))) | exact .s (.s (.s (.s (.s (.s (.s .z))))))) (fun w hA hW hp => by with_reducible exact among_ hp (hW.fact (p := (fun W : World => Below w0.heap.size w0 W)) (by repeat (first | exact memH | refine memT ?_))) (Box_at hW (g := g3) (T' := 3) (cs := [.int .i64 0, .int .i64 0, .int .i64 1, .int .i64 5]) (by repeat (first | exact memH | refine memT ?_))) (L := [0, 0, 1, 5]) ⟨rfl, by decide, rfl⟩ F6) ?_
      | refine Jl.callM (v := .int .i64 r) (.any (Cur w0 g l0 b6 u6)) (.any (Cur w0 g l0 b7 u7)) rfl rfl rfl rfl en72 rfl (by with_reducible first | exact .z | exact .s .z | exact .s (.s .z) | exact .s (.s (.s .z)) | exact .s (.s (.s (.s .z))) | exact .s (.s (.s (.s (.s .z)))) | exact .s (.s (.s (.s (.s (.s .z))))) | exact .s (.s (.s (.s (.s (.s (.s .z))))))) (fun w hA hW hp => by with_reducible exact cur_ hp (hW.fact (p := (fun W : World => Below w0.heap.size w0 W)) (by repeat (first | exact memH | refine memT ?_))) (fun hI hB => spec_l1Cur_pick.calls g l0 b6 u6 60 r b7 u7 w0 w hI hB F7)) ?_
      | refine Jl.yd (build3 (us := [.int .i64 y, .int .i64 e0, .int .i64 e1, .int .i64 e2, .int .i64 e3, .bool e4, .int .i64 v]) rfl rfl rfl rfl (fun w => bld40 _ _ _ _ _ _ _ w)) rfl rfl rfl ?_
      | refine Jl.yd (build4 (us := [.int .i64 (wrap64 (240 + wrap64 (60 * p))), .int .i64 1600, .int .i64 10, .int .i64 (wrap64 (1 + q)), .bool false]) rfl rfl rfl rfl rfl (fun w => bld25 _ _ _ _ w)) rfl rfl rfl ?_
      | refine storeP (cs2 := [.int .i64 y, .int .i64 (wrap64 (240 + wrap64 (60 * p))), .int .i64 1600, .int .i64 10, .int .i64 (wrap64 (1 + q)), .bool false, .int .i64 v]) (us := [.int .i64 (wrap64 (240 + wrap64 (60 * p))), .int .i64 1600, .int .i64 10, .int .i64 (wrap64 (1 + q)), .bool false]) rfl rfl rfl rfl rfl sz25 (by with_reducible first | exact .z | exact .s .z | exact .s (.s .z) | exact .s (.s (.s .z)) | exact .s (.s (.s (.s .z))) | exact .s (.s (.s (.s (.s .z)))) | exact .s (.s (.s (.s (.s (.s .z))))) | exact .s (.s (.s (.s (.s (.s (.s .z))))))) rfl (by show 1 + 5 ≤ 7; omega) (allOne_mem rfl) rfl ?_
      | refine Jl.litS (us := [.int .i64 y, .int .i64 (wrap64 (240 + wrap64 (60 * p))), .int .i64 1600, .int .i64 10, .int .i64 (wrap64 (1 + q)), .bool false, .int .i64 v]) (zs := [.int .i64 0, .int .i64 0, .int .i64 0, .int .i64 0, .int .i64 0, .bool false, .int .i64 0]) rfl rfl rfl rfl rfl el46 zero40 rfl rfl (fill7 _ _ _ _ _ _ _ _ _ _ _ _ _ _) (fun g9 => ?_)
      | refine Jl.app (dk := k40) (xs := x) ((⟨y, (⟨wrap64 (240 + (wrap64 (60 * p))), 1600, 10, wrap64 (1 + q), false⟩ : S25), v⟩ : S40)) (fun _ => False) rfl rfl rfl rfl rfl rfl ap46 (by repeat (first | exact .head _ | refine .tail _ ?_)) rfl (fun w => k40_mkM w 0 (fun _ => False) ((⟨y, (⟨wrap64 (240 + (wrap64 (60 * p))), 1600, 10, wrap64 (1 + q), false⟩ : S25), v⟩ : S40))) (encO ((⟨y, (⟨wrap64 (240 + (wrap64 (60 * p))), 1600, 10, wrap64 (1 + q), false⟩ : S25), v⟩ : S40))) (by repeat (first | exact .z | apply OutAt.s)) (by omega) (by omega) (fun A9 c9 h9 => ?_)
      | refine Jl.yd (Y.quoN (r := wrap64 (Int.tdiv r 59)) rfl rfl rfl (by decide) (wrapW _)) rfl rfl rfl ?_
      | refine Jl.splitG rfl rfl (fun h => ?_) (fun h => ?_))
    | (apply gateE; first
      | refine Jl.nil (Ej.go ?_ (fun _ _ h => h))
      | (refine Jl.nil (Ej.back (fun _ _ h => h) (by repeat (first | exact .refl | apply DropTo.tail)) ?_); repeat (first | exact trivial | refine ⟨rfl, ?_⟩)))
    | (apply gateC; first
      | refine Cj.block rfl ?_
      | refine Cj.condF rfl rfl (Cj.skip rfl (Ej.go ?_ (fun _ _ h => h)))
      | (refine Cj.condF rfl rfl (Cj.skip rfl (Ej.back (fun _ _ h => h) (by repeat (first | exact .refl | apply DropTo.tail)) ?_)); repeat (first | exact trivial | refine ⟨rfl, ?_⟩))
      | refine Cj.condF rfl rfl ?_
      | refine Cj.condT rfl rfl ?_
      | refine Cj.exit rfl (Ej.go ?_ (fun _ _ h => h))
      | refine Cj.cond rfl rfl (fun h => ?_) (fun h => ?_)
      | refine Cj.skip rfl (Ej.go ?_ (fun _ _ h => h))
      | (refine Cj.skip rfl (Ej.back (fun _ _ h => h) (by repeat (first | exact .refl | apply DropTo.tail)) ?_); repeat (first | exact trivial | refine ⟨rfl, ?_⟩))
      | refine Cj.seq rfl ?_
      | refine Cj.region rfl ?_))
          refine Jl.nil (Ej.cutP (ι := Nat × List S40 × Int × Int × Int × Int × Option Addr × Nat) _ _ _ _ (fun _ _ h => h) (k, x ++ [(⟨y, (⟨wrap64 (240 + (wrap64 (60 * p))), 1600, 10, wrap64 (1 + q), false⟩ : S25), v⟩ : S40)], wrap64 ((wrap64 (y + u)) - (wrap64 (Int.tdiv r 59))), wrap64 (n - 1), b7, u7, A9, c9) ⟨⟨H, by dsimp only; simp only [List.length_append, List.length_cons, List.length_nil]; omega⟩, Nat.lt_succ_self _⟩ ⟨rfl, rfl, rfl, rfl, trivial⟩ (by repeat (first | exact .nil | refine Pick.cons (by repeat (first | exact .z | apply OutAt.s)) ?_)) (fun p hp => hp))
        · rw [if_neg hb] at H; cases H
      | false =>
        rw [if_neg (by simp)] at H
        by_cases hb : x.length < 2513169434916
        · rw [if_pos hb] at H
          obtain ⟨⟨u, b6, u6⟩, F6, H⟩ := Option.bind_eq_some_iff.1 H
          obtain ⟨⟨r, b7, u7⟩, F7, H⟩ := Option.bind_eq_some_iff.1 H
          dsimp only at F6 F7 H
          repeat (first
    | (apply gateO; first
      | refine Jl.yd (Y.mv rfl rfl) rfl rfl rfl ?_
      | refine Jl.yd (Y.asg rfl rfl) rfl rfl rfl ?_
      | refine Jl.yd (Y.ext rfl rfl rfl) rfl rfl rfl ?_
      | refine Jl.yd (Y.pickT rfl rfl rfl) rfl rfl rfl ?_
      | refine Jl.yd (Y.pickF rfl rfl rfl) rfl rfl rfl ?_
      | refine Jl.off rfl rfl rfl ?_
      | refine Jl.yd (Y.cmpF rfl rfl rfl rfl (by omega)) rfl rfl rfl ?_
      | refine Jl.yd (Y.cmpT rfl rfl rfl rfl (by omega)) rfl rfl rfl ?_
      | refine Jl.yd (Y.neqB rfl rfl rfl Try.underlying4) rfl rfl rfl ?_
      | refine Jl.yd (Y.cmp rfl rfl rfl rfl) rfl rfl rfl ?_
      | refine Jl.yd (Y.not rfl rfl) rfl rfl rfl ?_
      | refine Jl.yd (Y.arithN rfl rfl rfl rfl (by omega)) rfl rfl rfl ?_
      | refine Jl.yd (Y.arith64 rfl rfl rfl rfl) rfl rfl rfl ?_
      | refine Jl.yd (Y.loadA rfl rfl agg25 (by repeat (first | exact .head _ | refine .tail _ ?_)) (by rfl)) rfl rfl rfl ?_
      | refine Jl.yd (Y.loadA rfl rfl agg40 (by repeat (first | exact .head _ | refine .tail _ ?_)) (by rfl)) rfl rfl rfl ?_
      | refine Jl.yd (Y.fld0 rfl rfl fld40_1) rfl rfl rfl ?_
      | refine Jl.alloc rfl rfl rfl rfl zero40 (fun gz => ?_)
      | refine Jl.storeA rfl rfl rfl rfl rfl sz40 (by repeat (first | exact .z | apply SetAt.s)) (by rfl) (by rfl) ?_
      | refine Jl.yd (Y.lenS Try.underlying46 rfl rfl rfl) rfl rfl rfl ?_
      | refine Jl.litN 5 #[.int .i64 1, .int .i64 50000, .int .i64 900000, .int .i64 1000000, .int .i64 100000000] 3 rfl rfl rfl rfl (by intro a w; kernel_rfl) (fun g2 => ?_)
      | refine Jl.litN 4 #[.int .i64 0, .int .i64 0, .int .i64 1, .int .i64 5] 3 rfl rfl rfl rfl (by intro a w; kernel_rfl) (fun g3 => ?_)
      | refine Jl.callM (v := .agg #[.int .i64 e0, .int .i64 e1, .int .i64 e2, .int .i64 e3, .bool e4]) (.any (Cur w0 g l0 a s)) (.any (Cur w0 g l0 b1 u1)) rfl rfl rfl rfl en70 rfl (by with_reducible first | exact .z | exact .s .z | exact .s (.s .z) | exact .s (.s (.s .z)) | exact .s (.s (.s (.s .z))) | exact .s (.s (.s (.s (.s .z)))) | exact .s (.s (.s (.s (.s (.s .z))))) | exact .s (.s (.s (.s (.s (.s (.s .z))))))) (fun w hA hW hp => by with_reducible exact cur_ hp (hW.fact (p := (fun W : World => Below w0.heap.size w0 W)) (by repeat (first | exact memH | refine memT ?_))) (fun hI hB => spec_l1Cur_appraisal.calls g l0 a s e0 e1 e2 e3 e4 b1 u1 w0 w hI hB F1)) ?_
      | refine Jl.callM (v := .int .i64 v) (.any (Cur w0 g l0 b1 u1)) (.any (Cur w0 g l0 b2 u2)) rfl rfl rfl rfl en71 rfl (by with_reducible first | exact .z | exact .s .z | exact .s (.s .z) | exact .s (.s (.s .z)) | exact .s (.s (.s (.s .z))) | exact .s (.s (.s (.s (.s .z)))) | exact .s (.s (.s (.s (.s (.s .z))))) | exact .s (.s (.s (.s (.s (.s (.s .z))))))) (fun w hA hW hp => by with_reducible exact among_ hp (hW.fact (p := (fun W : World => Below w0.heap.size w0 W)) (by repeat (first | exact memH | refine memT ?_))) (Box_at hW (g := g2) (T' := 3) (cs := [.int .i64 1, .int .i64 50000, .int .i64 900000, .int .i64 1000000, .int .i64 100000000]) (by repeat (first | exact memH | refine memT ?_))) (L := [1, 50000, 900000, 1000000, 100000000]) ⟨rfl, by decide, rfl⟩ F2) ?_
      | refine Jl.yd (Y.arith64 rfl rfl rfl rfl) rfl rfl rfl ?_
      | refine Jl.callM (v := .bool false) (.any (Cur w0 g l0 b2 u2)) (.any (Cur w0 g l0 b3 u3)) rfl rfl rfl rfl en82 rfl (by with_reducible first | exact .z | exact .s .z | exact .s (.s .z) | exact .s (.s (.s .z)) | exact .s (.s (.s (.s .z))) | exact .s (.s (.s (.s (.s .z)))) | exact .s (.s (.s (.s (.s (.s .z))))) | exact .s (.s (.s (.s (.s (.s (.s .z))))))) (fun w hA hW hp => by with_reducible exact cur_ hp (hW.fact (p := (fun W : World => Below w0.heap.size w0 W)) (by repeat (first | exact memH | refine memT ?_))) (fun hI hB => spec_l1Cur_one.calls g l0 b2 u2 2 false b3 u3 w0 w hI hB F3)) ?_
      | refine Jl.callM (v := .int .i64 u) (.any (Cur w0 g l0 b3 u3)) (.any (Cur w0 g l0 b6 u6)) rfl rfl rfl rfl en71 rfl (by with_reducible first | exact .z | exact .s .z | exact .s (.s .z) | exact .s (.s (.s .z)) | exact .s (.s (.s (.s .z))) | exact .s (.s (.s (.s (.s .z)))) | exact .s (.s (.s (.s (.s (.s .z))))) | exact .s (.s (.s (.s (.s (.s (.s .z))))))) (fun w hA hW hp => by with_reducible exact among_ hp (hW.fact (p := (fun W : World => Below w0.heap.size w0 W)) (by repeat (first | exact memH | refine memT ?_))) (Box_at hW (g := g3) (T' := 3) (cs := [.int .i64 0, .int .i64 0, .int .i64 1, .int .i64 5]) (by repeat (first | exact memH | refine memT ?_))) (L := [0, 0, 1, 5]) ⟨rfl, by decide, rfl⟩ F6) ?_
      | refine Jl.callM (v := .int .i64 r) (.any (Cur w0 g l0 b6 u6)) (.any (Cur w0 g l0 b7 u7)) rfl rfl rfl rfl en72 rfl (by with_reducible first | exact .z | exact .s .z | exact .s (.s .z) | exact .s (.s (.s .z)) | exact .s (.s (.s (.s .z))) | exact .s (.s (.s (.s (.s .z)))) | exact .s (.s (.s (.s (.s (.s .z))))) | exact .s (.s (.s (.s (.s (.s (.s .z))))))) (fun w hA hW hp => by with_reducible exact cur_ hp (hW.fact (p := (fun W : World => Below w0.heap.size w0 W)) (by repeat (first | exact memH | refine memT ?_))) (fun hI hB => spec_l1Cur_pick.calls g l0 b6 u6 60 r b7 u7 w0 w hI hB F7)) ?_
      | refine Jl.yd (build3 (us := [.int .i64 y, .int .i64 e0, .int .i64 e1, .int .i64 e2, .int .i64 e3, .bool e4, .int .i64 v]) rfl rfl rfl rfl (fun w => bld40 _ _ _ _ _ _ _ w)) rfl rfl rfl ?_
      | refine Jl.litS (us := [.int .i64 y, .int .i64 e0, .int .i64 e1, .int .i64 e2, .int .i64 e3, .bool e4, .int .i64 v]) (zs := [.int .i64 0, .int .i64 0, .int .i64 0, .int .i64 0, .int .i64 0, .bool false, .int .i64 0]) rfl rfl rfl rfl rfl el46 zero40 rfl rfl (fill7 _ _ _ _ _ _ _ _ _ _ _ _ _ _) (fun g9 => ?_)
      | refine Jl.app (dk := k40) (xs := x) ((⟨y, (⟨e0, e1, e2, e3, e4⟩ : S25), v⟩ : S40)) (fun _ => False) rfl rfl rfl rfl rfl rfl ap46 (by repeat (first | exact .head _ | refine .tail _ ?_)) rfl (fun w => k40_mkM w 0 (fun _ => False) ((⟨y, (⟨e0, e1, e2, e3, e4⟩ : S25), v⟩ : S40))) (encO ((⟨y, (⟨e0, e1, e2, e3, e4⟩ : S25), v⟩ : S40))) (by repeat (first | exact .z | apply OutAt.s)) (by omega) (by omega) (fun A9 c9 h9 => ?_)
      | refine Jl.yd (Y.quoN (r := wrap64 (Int.tdiv r 59)) rfl rfl rfl (by decide) (wrapW _)) rfl rfl rfl ?_
      | refine Jl.splitG rfl rfl (fun h => ?_) (fun h => ?_))
    | (apply gateE; first
      | refine Jl.nil (Ej.go ?_ (fun _ _ h => h))
      | (refine Jl.nil (Ej.back (fun _ _ h => h) (by repeat (first | exact .refl | apply DropTo.tail)) ?_); repeat (first | exact trivial | refine ⟨rfl, ?_⟩)))
    | (apply gateC; first
      | refine Cj.block rfl ?_
      | refine Cj.condF rfl rfl (Cj.skip rfl (Ej.go ?_ (fun _ _ h => h)))
      | (refine Cj.condF rfl rfl (Cj.skip rfl (Ej.back (fun _ _ h => h) (by repeat (first | exact .refl | apply DropTo.tail)) ?_)); repeat (first | exact trivial | refine ⟨rfl, ?_⟩))
      | refine Cj.condF rfl rfl ?_
      | refine Cj.condT rfl rfl ?_
      | refine Cj.exit rfl (Ej.go ?_ (fun _ _ h => h))
      | refine Cj.cond rfl rfl (fun h => ?_) (fun h => ?_)
      | refine Cj.skip rfl (Ej.go ?_ (fun _ _ h => h))
      | (refine Cj.skip rfl (Ej.back (fun _ _ h => h) (by repeat (first | exact .refl | apply DropTo.tail)) ?_); repeat (first | exact trivial | refine ⟨rfl, ?_⟩))
      | refine Cj.seq rfl ?_
      | refine Cj.region rfl ?_))
          refine Jl.nil (Ej.cutP (ι := Nat × List S40 × Int × Int × Int × Int × Option Addr × Nat) _ _ _ _ (fun _ _ h => h) (k, x ++ [(⟨y, (⟨e0, e1, e2, e3, e4⟩ : S25), v⟩ : S40)], wrap64 ((wrap64 (y + u)) - (wrap64 (Int.tdiv r 59))), wrap64 (n - 1), b7, u7, A9, c9) ⟨⟨H, by dsimp only; simp only [List.length_append, List.length_cons, List.length_nil]; omega⟩, Nat.lt_succ_self _⟩ ⟨rfl, rfl, rfl, rfl, trivial⟩ (by repeat (first | exact .nil | refine Pick.cons (by repeat (first | exact .z | apply OutAt.s)) ?_)) (fun p hp => hp))
        · rw [if_neg hb] at H; cases H
    · rw [if_neg hn] at H
      by_cases h0 : (x.length : Int) = 0
      · rw [if_pos h0] at H
        injection H with H
        obtain ⟨rfl, rfl, rfl⟩ := Prod.mk.inj H |>.imp id Prod.mk.inj
        repeat (first
    | (apply gateO; first
      | refine Jl.yd (Y.mv rfl rfl) rfl rfl rfl ?_
      | refine Jl.yd (Y.asg rfl rfl) rfl rfl rfl ?_
      | refine Jl.yd (Y.ext rfl rfl rfl) rfl rfl rfl ?_
      | refine Jl.yd (Y.pickT rfl rfl rfl) rfl rfl rfl ?_
      | refine Jl.yd (Y.pickF rfl rfl rfl) rfl rfl rfl ?_
      | refine Jl.off rfl rfl rfl ?_
      | refine Jl.yd (Y.cmpF rfl rfl rfl rfl (by omega)) rfl rfl rfl ?_
      | refine Jl.yd (Y.cmpT rfl rfl rfl rfl (by omega)) rfl rfl rfl ?_
      | refine Jl.yd (Y.neqB rfl rfl rfl Try.underlying4) rfl rfl rfl ?_
      | refine Jl.yd (Y.cmp rfl rfl rfl rfl) rfl rfl rfl ?_
      | refine Jl.yd (Y.not rfl rfl) rfl rfl rfl ?_
      | refine Jl.yd (Y.arithN rfl rfl rfl rfl (by omega)) rfl rfl rfl ?_
      | refine Jl.yd (Y.arith64 rfl rfl rfl rfl) rfl rfl rfl ?_
      | refine Jl.yd (Y.lenS Try.underlying46 rfl rfl rfl) rfl rfl rfl ?_
      | refine Jl.splitG rfl rfl (fun h => ?_) (fun h => ?_))
    | (apply gateE; first
      | refine Jl.nil (Ej.go ?_ (fun _ _ h => h))
      | (refine Jl.nil (Ej.back (fun _ _ h => h) (by repeat (first | exact .refl | apply DropTo.tail)) ?_); repeat (first | exact trivial | refine ⟨rfl, ?_⟩)))
    | (apply gateC; first
      | refine Cj.block rfl ?_
      | refine Cj.ret rfl (Ej.out1 (P := Try.prog) (fn := Try.f81) (R := Rr) (fun _ _ h => h) rfl rfl (fun w' hW => ⟨_, rfl, ret_ hW (by repeat (first | exact .nil | refine Pick.cons (by repeat (first | exact .z | apply OutAt.s)) ?_)) (hW.fact (p := (fun W : World => Below w0.heap.size w0 W)) (by repeat (first | exact memH | refine memT ?_)))⟩))
      | refine Cj.condF rfl rfl (Cj.skip rfl (Ej.go ?_ (fun _ _ h => h)))
      | (refine Cj.condF rfl rfl (Cj.skip rfl (Ej.back (fun _ _ h => h) (by repeat (first | exact .refl | apply DropTo.tail)) ?_)); repeat (first | exact trivial | refine ⟨rfl, ?_⟩))
      | refine Cj.condF rfl rfl ?_
      | refine Cj.condT rfl rfl ?_
      | refine Cj.exit rfl (Ej.go ?_ (fun _ _ h => h))
      | refine Cj.cond rfl rfl (fun h => ?_) (fun h => ?_)
      | refine Cj.skip rfl (Ej.go ?_ (fun _ _ h => h))
      | (refine Cj.skip rfl (Ej.back (fun _ _ h => h) (by repeat (first | exact .refl | apply DropTo.tail)) ?_); repeat (first | exact trivial | refine ⟨rfl, ?_⟩))
      | refine Cj.seq rfl ?_
      | refine Cj.region rfl ?_))
      · rw [if_neg h0] at H
        obtain ⟨⟨b, b1, u1⟩, F1, H⟩ := Option.bind_eq_some_iff.1 H
        dsimp only at H
        by_cases c0 : b = 0
        · rw [if_pos c0, if_pos (by omega)] at H
          obtain ⟨⟨v, b2, u2⟩, F2, H⟩ := Option.bind_eq_some_iff.1 H
          injection H with H
          dsimp only at F2 H
          generalize hzd : rd_T40 x 0 = z at H
          obtain ⟨rfl, rfl, rfl⟩ := Prod.mk.inj H |>.imp id Prod.mk.inj
          subst c0
          have hx0 : 0 < x.length := by omega
          refine Cj.ws (ι := Nat × List Value) (fun i => A = some ⟨i.1, 0, none⟩ ∧ i.2.length = c * 7 ∧ c ≤ maxLen ∧ ∀ j us, (x.map enc)[j]? = some us → rowOf 7 i.2 j = us ∧ us.length = 7 ∧ ∀ u ∈ us, u.oneCell' = true) (fun i => [.box i.1 40 i.2, .any (Cur w0 g l0 a s)]) (fun _ => [(fun W : World => Below w0.heap.size w0 W)]) (fun w' hW => by
            obtain ⟨A1, hA1⟩ := hW.item (i := .row k40 40 0 (.slice A x.length c) x) memH
            obtain ⟨hd, c', cs, e, hb, _, h2, h5, h6, h7⟩ := row_box hA1 hx0
            injection e with e1 e2 e3
            subst e3
            exact ⟨(hd, cs), ⟨e1, h2, h6, h7⟩, hW.upd (n := 0) rfl (fun A' hA' _ => ⟨fun k => k = hd, hb, fun k hk _ => by rw [hk]; exact hA'.1.1 hd (by rw [e1]; rfl), Aft.refl _ _⟩)⟩) (fun i hi => ?_)
          obtain ⟨hd, cs⟩ := i
          dsimp only at hi ⊢
          obtain ⟨rfl, hcl, hcm, hrows⟩ := hi
          have hz : (x.map enc)[0]? = some (enc z) := by
            rw [← hzd]
            cases x with
            | nil => simp at hx0
            | cons a l => rfl
          have hc0 : (cs.drop 0).take 7 = [.int .i64 z.f0, .int .i64 z.f1.f0, .int .i64 z.f1.f1, .int .i64 z.f1.f2, .int .i64 z.f1.f3, .bool z.f1.f4, .int .i64 z.f2] := (hrows 0 _ hz).1
          repeat (first
    | (apply gateO; first
      | refine Jl.yd (Y.mv rfl rfl) rfl rfl rfl ?_
      | refine Jl.yd (Y.asg rfl rfl) rfl rfl rfl ?_
      | refine Jl.yd (Y.ext rfl rfl rfl) rfl rfl rfl ?_
      | refine Jl.yd (Y.pickT rfl rfl rfl) rfl rfl rfl ?_
      | refine Jl.yd (Y.pickF rfl rfl rfl) rfl rfl rfl ?_
      | refine Jl.off rfl rfl rfl ?_
      | refine Jl.yd (Y.cmpF rfl rfl rfl rfl (by omega)) rfl rfl rfl ?_
      | refine Jl.yd (Y.cmpT rfl rfl rfl rfl (by omega)) rfl rfl rfl ?_
      | refine Jl.yd (Y.neqB rfl rfl rfl Try.underlying4) rfl rfl rfl ?_
      | refine Jl.yd (Y.cmp rfl rfl rfl rfl) rfl rfl rfl ?_
      | refine Jl.yd (Y.not rfl rfl) rfl rfl rfl ?_
      | refine Jl.yd (Y.arithN rfl rfl rfl rfl (by omega)) rfl rfl rfl ?_
      | refine Jl.yd (Y.arith64 rfl rfl rfl rfl) rfl rfl rfl ?_
      | refine Jl.yd (Y.loadA rfl rfl agg40 (by repeat (first | exact .head _ | refine .tail _ ?_)) (by rfl)) rfl rfl rfl ?_
      | refine Jl.alloc rfl rfl rfl rfl zero40 (fun gz => ?_)
      | refine Jl.storeA rfl rfl rfl rfl rfl sz40 (by repeat (first | exact .z | apply SetAt.s)) (by rfl) (by rfl) ?_
      | refine Jl.store1 rfl rfl rfl rfl rfl sz3 rfl (by repeat (first | exact .head _ | refine .tail _ ?_)) (by repeat (first | exact .z | apply PutAt.s)) (by repeat (first | exact .z | apply SetAt.s)) ?_
      | refine Jl.yd (Y.lenS Try.underlying46 rfl rfl rfl) rfl rfl rfl ?_
      | refine Jl.callM (v := .int .i64 0) (.any (Cur w0 g l0 a s)) (.any (Cur w0 g l0 b1 u1)) rfl rfl rfl rfl en72 rfl (by with_reducible first | exact .z | exact .s .z | exact .s (.s .z) | exact .s (.s (.s .z)) | exact .s (.s (.s (.s .z))) | exact .s (.s (.s (.s (.s .z)))) | exact .s (.s (.s (.s (.s (.s .z))))) | exact .s (.s (.s (.s (.s (.s (.s .z))))))) (fun w hA hW hp => by with_reducible exact cur_ hp (hW.fact (p := (fun W : World => Below w0.heap.size w0 W)) (by repeat (first | exact memH | refine memT ?_))) (fun hI hB => spec_l1Cur_pick.calls g l0 a s 40 0 b1 u1 w0 w hI hB F1)) ?_
      | refine Jl.yd (Y.idx0 rfl rfl rfl el46 (by omega) (by omega)) rfl rfl rfl ?_
      | refine Jl.yd (Y.loadE (u := [.int .i64 z.f0, .int .i64 z.f1.f0, .int .i64 z.f1.f1, .int .i64 z.f1.f2, .int .i64 z.f1.f3, .bool z.f1.f4, .int .i64 z.f2]) rfl rfl agg40 (by repeat (first | exact .head _ | refine .tail _ ?_)) hc0 rfl) rfl rfl rfl ?_
      | refine Jl.yd (Y.fld0 rfl rfl fld40_2) rfl rfl rfl ?_
      | refine Jl.litN 2 #[.int .i64 0, .int .i64 100000001] 3 rfl rfl rfl rfl (by intro a w; kernel_rfl) (fun g4 => ?_)
      | refine Jl.callM (v := .int .i64 v) (.any (Cur w0 g l0 b1 u1)) (.any (Cur w0 g l0 b2 u2)) rfl rfl rfl rfl en71 rfl (by with_reducible first | exact .z | exact .s .z | exact .s (.s .z) | exact .s (.s (.s .z)) | exact .s (.s (.s (.s .z))) | exact .s (.s (.s (.s (.s .z)))) | exact .s (.s (.s (.s (.s (.s .z))))) | exact .s (.s (.s (.s (.s (.s (.s .z))))))) (fun w hA hW hp => by with_reducible exact among_ hp (hW.fact (p := (fun W : World => Below w0.heap.size w0 W)) (by repeat (first | exact memH | refine memT ?_))) (Box_at hW (g := g4) (T' := 3) (cs := [.int .i64 0, .int .i64 100000001]) (by repeat (first | exact memH | refine memT ?_))) (L := [0, 100000001]) ⟨rfl, by decide, rfl⟩ F2) ?_
      | refine Jl.storeB (us := [.int .i64 z.f0, .int .i64 z.f1.f0, .int .i64 z.f1.f1, .int .i64 z.f1.f2, .int .i64 z.f1.f3, .bool z.f1.f4, .int .i64 v]) rfl rfl rfl rfl rfl sz40 (by with_reducible first | exact .z | exact .s .z | exact .s (.s .z) | exact .s (.s (.s .z)) | exact .s (.s (.s (.s .z))) | exact .s (.s (.s (.s (.s .z)))) | exact .s (.s (.s (.s (.s (.s .z))))) | exact .s (.s (.s (.s (.s (.s (.s .z))))))) rfl (by show 0 * 7 + 7 ≤ _; rw [hcl]; omega) (allOne_mem rfl) ?_
      | refine Jl.splitG rfl rfl (fun h => ?_) (fun h => ?_))
    | (apply gateE; first
      | refine Jl.nil (Ej.go ?_ (fun _ _ h => h))
      | (refine Jl.nil (Ej.back (fun _ _ h => h) (by repeat (first | exact .refl | apply DropTo.tail)) ?_); repeat (first | exact trivial | refine ⟨rfl, ?_⟩)))
    | (apply gateC; first
      | refine Cj.block rfl ?_
      | refine Cj.ret rfl (Ej.out1 (P := Try.prog) (fn := Try.f81) (R := Rr) (fun _ _ h => h) rfl rfl (fun w' hW => ⟨_, rfl, retB (cs := wr cs 0 (enc (⟨z.f0, (⟨z.f1.f0, z.f1.f1, z.f1.f2, z.f1.f3, z.f1.f4⟩ : S25), v⟩ : S40))) hW (by repeat (first | exact .nil | refine Pick.cons (by repeat (first | exact .z | apply OutAt.s)) ?_)) (hW.fact (p := (fun W : World => Below w0.heap.size w0 W)) (by repeat (first | exact memH | refine memT ?_))) (List.length_set ..).symm (by rw [wr_length (by show 0 + 7 ≤ _; rw [hcl]; omega)]; exact hcl) (by rw [List.length_set]; exact hxc) hcm (set_rows hx0 hcl hxc hrows)⟩))
      | refine Cj.condF rfl rfl (Cj.skip rfl (Ej.go ?_ (fun _ _ h => h)))
      | (refine Cj.condF rfl rfl (Cj.skip rfl (Ej.back (fun _ _ h => h) (by repeat (first | exact .refl | apply DropTo.tail)) ?_)); repeat (first | exact trivial | refine ⟨rfl, ?_⟩))
      | refine Cj.condF rfl rfl ?_
      | refine Cj.condT rfl rfl ?_
      | refine Cj.exit rfl (Ej.go ?_ (fun _ _ h => h))
      | refine Cj.cond rfl rfl (fun h => ?_) (fun h => ?_)
      | refine Cj.skip rfl (Ej.go ?_ (fun _ _ h => h))
      | (refine Cj.skip rfl (Ej.back (fun _ _ h => h) (by repeat (first | exact .refl | apply DropTo.tail)) ?_); repeat (first | exact trivial | refine ⟨rfl, ?_⟩))
      | refine Cj.seq rfl ?_
      | refine Cj.region rfl ?_))
        · rw [if_neg c0] at H
          by_cases c1 : b = 1
          · rw [if_pos c1] at H
            subst c1
            repeat (first
    | (apply gateO; first
      | refine Jl.yd (Y.mv rfl rfl) rfl rfl rfl ?_
      | refine Jl.yd (Y.asg rfl rfl) rfl rfl rfl ?_
      | refine Jl.yd (Y.ext rfl rfl rfl) rfl rfl rfl ?_
      | refine Jl.yd (Y.pickT rfl rfl rfl) rfl rfl rfl ?_
      | refine Jl.yd (Y.pickF rfl rfl rfl) rfl rfl rfl ?_
      | refine Jl.off rfl rfl rfl ?_
      | refine Jl.yd (Y.cmpF rfl rfl rfl rfl (by omega)) rfl rfl rfl ?_
      | refine Jl.yd (Y.cmpT rfl rfl rfl rfl (by omega)) rfl rfl rfl ?_
      | refine Jl.yd (Y.neqB rfl rfl rfl Try.underlying4) rfl rfl rfl ?_
      | refine Jl.yd (Y.cmp rfl rfl rfl rfl) rfl rfl rfl ?_
      | refine Jl.yd (Y.not rfl rfl) rfl rfl rfl ?_
      | refine Jl.yd (Y.arithN rfl rfl rfl rfl (by omega)) rfl rfl rfl ?_
      | refine Jl.yd (Y.arith64 rfl rfl rfl rfl) rfl rfl rfl ?_
      | refine Jl.yd (Y.lenS Try.underlying46 rfl rfl rfl) rfl rfl rfl ?_
      | refine Jl.callM (v := .int .i64 1) (.any (Cur w0 g l0 a s)) (.any (Cur w0 g l0 b1 u1)) rfl rfl rfl rfl en72 rfl (by with_reducible first | exact .z | exact .s .z | exact .s (.s .z) | exact .s (.s (.s .z)) | exact .s (.s (.s (.s .z))) | exact .s (.s (.s (.s (.s .z)))) | exact .s (.s (.s (.s (.s (.s .z))))) | exact .s (.s (.s (.s (.s (.s (.s .z))))))) (fun w hA hW hp => by with_reducible exact cur_ hp (hW.fact (p := (fun W : World => Below w0.heap.size w0 W)) (by repeat (first | exact memH | refine memT ?_))) (fun hI hB => spec_l1Cur_pick.calls g l0 a s 40 1 b1 u1 w0 w hI hB F1)) ?_
      | refine Jl.splitG rfl rfl (fun h => ?_) (fun h => ?_))
    | (apply gateE; first
      | refine Jl.nil (Ej.go ?_ (fun _ _ h => h))
      | (refine Jl.nil (Ej.back (fun _ _ h => h) (by repeat (first | exact .refl | apply DropTo.tail)) ?_); repeat (first | exact trivial | refine ⟨rfl, ?_⟩)))
    | (apply gateC; first
      | refine Cj.block rfl ?_
      | refine Cj.condF rfl rfl (Cj.skip rfl (Ej.go ?_ (fun _ _ h => h)))
      | (refine Cj.condF rfl rfl (Cj.skip rfl (Ej.back (fun _ _ h => h) (by repeat (first | exact .refl | apply DropTo.tail)) ?_)); repeat (first | exact trivial | refine ⟨rfl, ?_⟩))
      | refine Cj.condF rfl rfl ?_
      | refine Cj.condT rfl rfl ?_
      | refine Cj.exit rfl (Ej.go ?_ (fun _ _ h => h))
      | refine Cj.cond rfl rfl (fun h => ?_) (fun h => ?_)
      | refine Cj.skip rfl (Ej.go ?_ (fun _ _ h => h))
      | (refine Cj.skip rfl (Ej.back (fun _ _ h => h) (by repeat (first | exact .refl | apply DropTo.tail)) ?_); repeat (first | exact trivial | refine ⟨rfl, ?_⟩))
      | refine Cj.seq rfl ?_
      | refine Cj.region rfl ?_))
            refine Cj.loopP (ι := Nat × List S40 × Int × Int × Option Addr × Nat) (fun i => spec_l1Cur_sales.l1 i.1 i.2.1 l0 i.2.2.1 i.2.2.2.1 = some (r1, r2, r3) ∧ 0 < i.2.1.length ∧ i.2.1.length ≤ i.2.2.2.2.2) (fun i => [(0, .pointer (some ⟨g, 0, none⟩)), (3, .slice i.2.2.2.2.1 i.2.1.length i.2.2.2.2.2)]) (fun i => [.row k40 40 0 (.slice i.2.2.2.2.1 i.2.1.length i.2.2.2.2.2) i.2.1, .any (Cur w0 g l0 i.2.2.1 i.2.2.2.1)]) (fun _ => [(fun W : World => Below w0.heap.size w0 W)]) (fun i => i.1) rfl (k, x, b1, u1, A, c) ⟨H, by dsimp only; omega, hxc⟩ ⟨rfl, rfl, trivial⟩ (by repeat (first | exact .nil | refine Pick.cons (by repeat (first | exact .z | apply OutAt.s)) ?_)) (fun p hp => hp) (fun i hi => ?_)
            clear H hxc h0 F1 hn
            obtain ⟨k, x, a, s, A, c⟩ := i
            dsimp only at hi ⊢
            obtain ⟨H, hx0, hxc⟩ := hi
            cases k with
            | zero => exact absurd H (by simp [spec_l1Cur_sales.l1])
            | succ k =>
              simp only [spec_l1Cur_sales.l1] at H
              obtain ⟨⟨b, b1, u1⟩, F1, H⟩ := Option.bind_eq_some_iff.1 H
              dsimp only at H
              by_cases hlt : (x.length : Int) < wrap64 (10 + b)
              · rw [if_pos hlt] at H
                split at H
                · rename_i q1
                  split at H
                  · rename_i q2
                    split at H
                    · rename_i q3
                      have hwr : wrap64 ((x.length : Int) - 1) = ((x.length - 1 : Nat) : Int) := by unfold wrap64; omega
                      rw [hwr] at H q1 q2
                      rw [show (rd_T40 x ((x.length - 1 : Nat) : Int)) = x.getD (x.length - 1) z40 from by unfold rd_T40; rw [Int.toNat_natCast]] at H
                      generalize hz : x.getD (x.length - 1) z40 = z at H
                      refine Cj.ws (ι := Nat) (fun hd => A = some ⟨hd, 0, none⟩) (fun _ => [.row k40 40 0 (.slice A x.length c) x, .any (Cur w0 g l0 a s)]) (fun _ => [(fun W : World => Below w0.heap.size w0 W)]) (fun w' hW => by
                        obtain ⟨S, hR, _⟩ := hW.item (i := .row k40 40 0 (.slice A x.length c) x) memH
                        rcases row_form hR with ⟨c, e, e0⟩ | ⟨hd, c, e⟩
                        · rw [e0] at hx0; simp at hx0
                        · injection e with e1
                          exact ⟨hd, e1, hW⟩) (fun hd hA => ?_)
                      subst hA
                      repeat (first
    | (apply gateO; first
      | refine Jl.yd (Y.mv rfl rfl) rfl rfl rfl ?_
      | refine Jl.yd (Y.asg rfl rfl) rfl rfl rfl ?_
      | refine Jl.yd (Y.ext rfl rfl rfl) rfl rfl rfl ?_
      | refine Jl.yd (Y.pickT rfl rfl rfl) rfl rfl rfl ?_
      | refine Jl.yd (Y.pickF rfl rfl rfl) rfl rfl rfl ?_
      | refine Jl.off rfl rfl rfl ?_
      | refine Jl.yd (Y.cmpF rfl rfl rfl rfl (by omega)) rfl rfl rfl ?_
      | refine Jl.yd (Y.cmpT rfl rfl rfl rfl (by omega)) rfl rfl rfl ?_
      | refine Jl.yd (Y.neqB rfl rfl rfl Try.underlying4) rfl rfl rfl ?_
      | refine Jl.yd (Y.cmp rfl rfl rfl rfl) rfl rfl rfl ?_
      | refine Jl.yd (Y.not rfl rfl) rfl rfl rfl ?_
      | refine Jl.yd (Y.arithN rfl rfl rfl rfl (by omega)) rfl rfl rfl ?_
      | refine Jl.yd (Y.arith64 rfl rfl rfl rfl) rfl rfl rfl ?_
      | refine Jl.yd (Y.lenS Try.underlying46 rfl rfl rfl) rfl rfl rfl ?_
      | refine Jl.callM (v := .int .i64 b) (.any (Cur w0 g l0 a s)) (.any (Cur w0 g l0 b1 u1)) rfl rfl rfl rfl en72 rfl (by with_reducible first | exact .z | exact .s .z | exact .s (.s .z) | exact .s (.s (.s .z)) | exact .s (.s (.s (.s .z))) | exact .s (.s (.s (.s (.s .z)))) | exact .s (.s (.s (.s (.s (.s .z))))) | exact .s (.s (.s (.s (.s (.s (.s .z))))))) (fun w hA hW hp => by with_reducible exact cur_ hp (hW.fact (p := (fun W : World => Below w0.heap.size w0 W)) (by repeat (first | exact memH | refine memT ?_))) (fun hI hB => spec_l1Cur_pick.calls g l0 a s 2 b b1 u1 w0 w hI hB F1)) ?_
      | refine Jl.yd (Y.arith64 rfl rfl rfl rfl) rfl rfl rfl ?_
      | refine Jl.yd (Y.idx0 rfl rfl rfl el46 (by omega) (by omega)) rfl rfl rfl ?_
      | refine Jl.yd (Y.loadRF rfl rfl agg40 (by repeat (first | exact .head _ | refine .tail _ ?_)) z40 ((x.length : Int) - 1) (by omega) (by omega) (by rfl) ([.int .i64 z.f0, .int .i64 z.f1.f0, .int .i64 z.f1.f1, .int .i64 z.f1.f2, .int .i64 z.f1.f3, .bool z.f1.f4, .int .i64 z.f2]) (fun w ok cs hM => by rw [show ((x.length : Int) - 1).toNat = x.length - 1 by omega, hz] at hM; exact (encM _ _ _ _ _).1 hM) rfl) rfl rfl rfl ?_
      | refine Jl.litS (us := [.int .i64 z.f0, .int .i64 z.f1.f0, .int .i64 z.f1.f1, .int .i64 z.f1.f2, .int .i64 z.f1.f3, .bool z.f1.f4, .int .i64 z.f2]) (zs := [.int .i64 0, .int .i64 0, .int .i64 0, .int .i64 0, .int .i64 0, .bool false, .int .i64 0]) rfl rfl rfl rfl rfl el46 zero40 rfl rfl (fill7 _ _ _ _ _ _ _ _ _ _ _ _ _ _) (fun g9 => ?_)
      | refine Jl.app (dk := k40) (xs := x) (z) (fun _ => False) rfl rfl rfl rfl rfl rfl ap46 (by repeat (first | exact .head _ | refine .tail _ ?_)) rfl (fun w => k40_mkM w 0 (fun _ => False) (z)) (encO (z)) (by repeat (first | exact .z | apply OutAt.s)) (by omega) (by omega) (fun A9 c9 h9 => ?_)
      | refine Jl.splitG rfl rfl (fun h => ?_) (fun h => ?_))
    | (apply gateE; first
      | refine Jl.nil (Ej.go ?_ (fun _ _ h => h))
      | (refine Jl.nil (Ej.back (fun _ _ h => h) (by repeat (first | exact .refl | apply DropTo.tail)) ?_); repeat (first | exact trivial | refine ⟨rfl, ?_⟩)))
    | (apply gateC; first
      | refine Cj.block rfl ?_
      | refine Cj.condF rfl rfl (Cj.skip rfl (Ej.go ?_ (fun _ _ h => h)))
      | (refine Cj.condF rfl rfl (Cj.skip rfl (Ej.back (fun _ _ h => h) (by repeat (first | exact .refl | apply DropTo.tail)) ?_)); repeat (first | exact trivial | refine ⟨rfl, ?_⟩))
      | refine Cj.condF rfl rfl ?_
      | refine Cj.condT rfl rfl ?_
      | refine Cj.exit rfl (Ej.go ?_ (fun _ _ h => h))
      | refine Cj.cond rfl rfl (fun h => ?_) (fun h => ?_)
      | refine Cj.skip rfl (Ej.go ?_ (fun _ _ h => h))
      | (refine Cj.skip rfl (Ej.back (fun _ _ h => h) (by repeat (first | exact .refl | apply DropTo.tail)) ?_); repeat (first | exact trivial | refine ⟨rfl, ?_⟩))
      | refine Cj.seq rfl ?_
      | refine Cj.region rfl ?_))
                      refine Jl.nil (Ej.cutP (ι := Nat × List S40 × Int × Int × Option Addr × Nat) _ _ _ _ (fun _ _ h => h) (k, x ++ [z], b1, u1, A9, c9) ⟨⟨H, by simp, by dsimp only; simp only [List.length_append, List.length_cons, List.length_nil]; omega⟩, Nat.lt_succ_self _⟩ ⟨rfl, rfl, trivial⟩ (by repeat (first | exact .nil | refine Pick.cons (by repeat (first | exact .z | apply OutAt.s)) ?_)) (fun p hp => hp))
                    · cases H
                  · cases H
                · cases H
              · rw [if_neg hlt] at H
                injection H with H
                obtain ⟨rfl, rfl, rfl⟩ := Prod.mk.inj H |>.imp id Prod.mk.inj
                repeat (first
    | (apply gateO; first
      | refine Jl.yd (Y.mv rfl rfl) rfl rfl rfl ?_
      | refine Jl.yd (Y.asg rfl rfl) rfl rfl rfl ?_
      | refine Jl.yd (Y.ext rfl rfl rfl) rfl rfl rfl ?_
      | refine Jl.yd (Y.pickT rfl rfl rfl) rfl rfl rfl ?_
      | refine Jl.yd (Y.pickF rfl rfl rfl) rfl rfl rfl ?_
      | refine Jl.off rfl rfl rfl ?_
      | refine Jl.yd (Y.cmpF rfl rfl rfl rfl (by omega)) rfl rfl rfl ?_
      | refine Jl.yd (Y.cmpT rfl rfl rfl rfl (by omega)) rfl rfl rfl ?_
      | refine Jl.yd (Y.neqB rfl rfl rfl Try.underlying4) rfl rfl rfl ?_
      | refine Jl.yd (Y.cmp rfl rfl rfl rfl) rfl rfl rfl ?_
      | refine Jl.yd (Y.not rfl rfl) rfl rfl rfl ?_
      | refine Jl.yd (Y.arithN rfl rfl rfl rfl (by omega)) rfl rfl rfl ?_
      | refine Jl.yd (Y.arith64 rfl rfl rfl rfl) rfl rfl rfl ?_
      | refine Jl.yd (Y.lenS Try.underlying46 rfl rfl rfl) rfl rfl rfl ?_
      | refine Jl.callM (v := .int .i64 b) (.any (Cur w0 g l0 a s)) (.any (Cur w0 g l0 b1 u1)) rfl rfl rfl rfl en72 rfl (by with_reducible first | exact .z | exact .s .z | exact .s (.s .z) | exact .s (.s (.s .z)) | exact .s (.s (.s (.s .z))) | exact .s (.s (.s (.s (.s .z)))) | exact .s (.s (.s (.s (.s (.s .z))))) | exact .s (.s (.s (.s (.s (.s (.s .z))))))) (fun w hA hW hp => by with_reducible exact cur_ hp (hW.fact (p := (fun W : World => Below w0.heap.size w0 W)) (by repeat (first | exact memH | refine memT ?_))) (fun hI hB => spec_l1Cur_pick.calls g l0 a s 2 b b1 u1 w0 w hI hB F1)) ?_
      | refine Jl.yd (Y.arith64 rfl rfl rfl rfl) rfl rfl rfl ?_
      | refine Jl.splitG rfl rfl (fun h => ?_) (fun h => ?_))
    | (apply gateE; first
      | refine Jl.nil (Ej.go ?_ (fun _ _ h => h))
      | (refine Jl.nil (Ej.back (fun _ _ h => h) (by repeat (first | exact .refl | apply DropTo.tail)) ?_); repeat (first | exact trivial | refine ⟨rfl, ?_⟩)))
    | (apply gateC; first
      | refine Cj.block rfl ?_
      | refine Cj.ret rfl (Ej.out1 (P := Try.prog) (fn := Try.f81) (R := Rr) (fun _ _ h => h) rfl rfl (fun w' hW => ⟨_, rfl, ret_ hW (by repeat (first | exact .nil | refine Pick.cons (by repeat (first | exact .z | apply OutAt.s)) ?_)) (hW.fact (p := (fun W : World => Below w0.heap.size w0 W)) (by repeat (first | exact memH | refine memT ?_)))⟩))
      | refine Cj.condF rfl rfl (Cj.skip rfl (Ej.go ?_ (fun _ _ h => h)))
      | (refine Cj.condF rfl rfl (Cj.skip rfl (Ej.back (fun _ _ h => h) (by repeat (first | exact .refl | apply DropTo.tail)) ?_)); repeat (first | exact trivial | refine ⟨rfl, ?_⟩))
      | refine Cj.condF rfl rfl ?_
      | refine Cj.condT rfl rfl ?_
      | refine Cj.exit rfl (Ej.go ?_ (fun _ _ h => h))
      | refine Cj.cond rfl rfl (fun h => ?_) (fun h => ?_)
      | refine Cj.skip rfl (Ej.go ?_ (fun _ _ h => h))
      | (refine Cj.skip rfl (Ej.back (fun _ _ h => h) (by repeat (first | exact .refl | apply DropTo.tail)) ?_); repeat (first | exact trivial | refine ⟨rfl, ?_⟩))
      | refine Cj.seq rfl ?_
      | refine Cj.region rfl ?_))
          · rw [if_neg c1] at H
            by_cases c2 : b = 2
            · rw [if_pos c2, if_pos (by omega)] at H
              obtain ⟨⟨v, b2, u2⟩, F2, H⟩ := Option.bind_eq_some_iff.1 H
              injection H with H
              dsimp only at F2 H
              generalize hzd : rd_T40 x 0 = z at H
              obtain ⟨rfl, rfl, rfl⟩ := Prod.mk.inj H |>.imp id Prod.mk.inj
              subst c2
              have hx0 : 0 < x.length := by omega
              refine Cj.ws (ι := Nat × List Value) (fun i => A = some ⟨i.1, 0, none⟩ ∧ i.2.length = c * 7 ∧ c ≤ maxLen ∧ ∀ j us, (x.map enc)[j]? = some us → rowOf 7 i.2 j = us ∧ us.length = 7 ∧ ∀ u ∈ us, u.oneCell' = true) (fun i => [.box i.1 40 i.2, .any (Cur w0 g l0 a s)]) (fun _ => [(fun W : World => Below w0.heap.size w0 W)]) (fun w' hW => by
                obtain ⟨A1, hA1⟩ := hW.item (i := .row k40 40 0 (.slice A x.length c) x) memH
                obtain ⟨hd, c', cs, e, hb, _, h2, h5, h6, h7⟩ := row_box hA1 hx0
                injection e with e1 e2 e3
                subst e3
                exact ⟨(hd, cs), ⟨e1, h2, h6, h7⟩, hW.upd (n := 0) rfl (fun A' hA' _ => ⟨fun k => k = hd, hb, fun k hk _ => by rw [hk]; exact hA'.1.1 hd (by rw [e1]; rfl), Aft.refl _ _⟩)⟩) (fun i hi => ?_)
              obtain ⟨hd, cs⟩ := i
              dsimp only at hi ⊢
              obtain ⟨rfl, hcl, hcm, hrows⟩ := hi
              have hz : (x.map enc)[0]? = some (enc z) := by
                rw [← hzd]
                cases x with
                | nil => simp at hx0
                | cons a l => rfl
              have hc0 : (cs.drop 0).take 7 = [.int .i64 z.f0, .int .i64 z.f1.f0, .int .i64 z.f1.f1, .int .i64 z.f1.f2, .int .i64 z.f1.f3, .bool z.f1.f4, .int .i64 z.f2] := (hrows 0 _ hz).1
              repeat (first
    | (apply gateO; first
      | refine Jl.yd (Y.mv rfl rfl) rfl rfl rfl ?_
      | refine Jl.yd (Y.asg rfl rfl) rfl rfl rfl ?_
      | refine Jl.yd (Y.ext rfl rfl rfl) rfl rfl rfl ?_
      | refine Jl.yd (Y.pickT rfl rfl rfl) rfl rfl rfl ?_
      | refine Jl.yd (Y.pickF rfl rfl rfl) rfl rfl rfl ?_
      | refine Jl.off rfl rfl rfl ?_
      | refine Jl.yd (Y.cmpF rfl rfl rfl rfl (by omega)) rfl rfl rfl ?_
      | refine Jl.yd (Y.cmpT rfl rfl rfl rfl (by omega)) rfl rfl rfl ?_
      | refine Jl.yd (Y.neqB rfl rfl rfl Try.underlying4) rfl rfl rfl ?_
      | refine Jl.yd (Y.cmp rfl rfl rfl rfl) rfl rfl rfl ?_
      | refine Jl.yd (Y.not rfl rfl) rfl rfl rfl ?_
      | refine Jl.yd (Y.arithN rfl rfl rfl rfl (by omega)) rfl rfl rfl ?_
      | refine Jl.yd (Y.arith64 rfl rfl rfl rfl) rfl rfl rfl ?_
      | refine Jl.yd (Y.loadA rfl rfl agg40 (by repeat (first | exact .head _ | refine .tail _ ?_)) (by rfl)) rfl rfl rfl ?_
      | refine Jl.alloc rfl rfl rfl rfl zero40 (fun gz => ?_)
      | refine Jl.storeA rfl rfl rfl rfl rfl sz40 (by repeat (first | exact .z | apply SetAt.s)) (by rfl) (by rfl) ?_
      | refine Jl.store1 rfl rfl rfl rfl rfl sz3 rfl (by repeat (first | exact .head _ | refine .tail _ ?_)) (by repeat (first | exact .z | apply PutAt.s)) (by repeat (first | exact .z | apply SetAt.s)) ?_
      | refine Jl.yd (Y.lenS Try.underlying46 rfl rfl rfl) rfl rfl rfl ?_
      | refine Jl.callM (v := .int .i64 2) (.any (Cur w0 g l0 a s)) (.any (Cur w0 g l0 b1 u1)) rfl rfl rfl rfl en72 rfl (by with_reducible first | exact .z | exact .s .z | exact .s (.s .z) | exact .s (.s (.s .z)) | exact .s (.s (.s (.s .z))) | exact .s (.s (.s (.s (.s .z)))) | exact .s (.s (.s (.s (.s (.s .z))))) | exact .s (.s (.s (.s (.s (.s (.s .z))))))) (fun w hA hW hp => by with_reducible exact cur_ hp (hW.fact (p := (fun W : World => Below w0.heap.size w0 W)) (by repeat (first | exact memH | refine memT ?_))) (fun hI hB => spec_l1Cur_pick.calls g l0 a s 40 2 b1 u1 w0 w hI hB F1)) ?_
      | refine Jl.yd (Y.idx0 rfl rfl rfl el46 (by omega) (by omega)) rfl rfl rfl ?_
      | refine Jl.yd (Y.loadE (u := [.int .i64 z.f0, .int .i64 z.f1.f0, .int .i64 z.f1.f1, .int .i64 z.f1.f2, .int .i64 z.f1.f3, .bool z.f1.f4, .int .i64 z.f2]) rfl rfl agg40 (by repeat (first | exact .head _ | refine .tail _ ?_)) hc0 rfl) rfl rfl rfl ?_
      | refine Jl.yd (Y.fld0 rfl rfl fld40_0) rfl rfl rfl ?_
      | refine Jl.litN 2 #[.int .i64 1899, .int .i64 2101] 3 rfl rfl rfl rfl (by intro a w; kernel_rfl) (fun g4 => ?_)
      | refine Jl.callM (v := .int .i64 v) (.any (Cur w0 g l0 b1 u1)) (.any (Cur w0 g l0 b2 u2)) rfl rfl rfl rfl en71 rfl (by with_reducible first | exact .z | exact .s .z | exact .s (.s .z) | exact .s (.s (.s .z)) | exact .s (.s (.s (.s .z))) | exact .s (.s (.s (.s (.s .z)))) | exact .s (.s (.s (.s (.s (.s .z))))) | exact .s (.s (.s (.s (.s (.s (.s .z))))))) (fun w hA hW hp => by with_reducible exact among_ hp (hW.fact (p := (fun W : World => Below w0.heap.size w0 W)) (by repeat (first | exact memH | refine memT ?_))) (Box_at hW (g := g4) (T' := 3) (cs := [.int .i64 1899, .int .i64 2101]) (by repeat (first | exact memH | refine memT ?_))) (L := [1899, 2101]) ⟨rfl, by decide, rfl⟩ F2) ?_
      | refine Jl.storeB (us := [.int .i64 v, .int .i64 z.f1.f0, .int .i64 z.f1.f1, .int .i64 z.f1.f2, .int .i64 z.f1.f3, .bool z.f1.f4, .int .i64 z.f2]) rfl rfl rfl rfl rfl sz40 (by with_reducible first | exact .z | exact .s .z | exact .s (.s .z) | exact .s (.s (.s .z)) | exact .s (.s (.s (.s .z))) | exact .s (.s (.s (.s (.s .z)))) | exact .s (.s (.s (.s (.s (.s .z))))) | exact .s (.s (.s (.s (.s (.s (.s .z))))))) rfl (by show 0 * 7 + 7 ≤ _; rw [hcl]; omega) (allOne_mem rfl) ?_
      | refine Jl.splitG rfl rfl (fun h => ?_) (fun h => ?_))
    | (apply gateE; first
      | refine Jl.nil (Ej.go ?_ (fun _ _ h => h))
      | (refine Jl.nil (Ej.back (fun _ _ h => h) (by repeat (first | exact .refl | apply DropTo.tail)) ?_); repeat (first | exact trivial | refine ⟨rfl, ?_⟩)))
    | (apply gateC; first
      | refine Cj.block rfl ?_
      | refine Cj.ret rfl (Ej.out1 (P := Try.prog) (fn := Try.f81) (R := Rr) (fun _ _ h => h) rfl rfl (fun w' hW => ⟨_, rfl, retB (cs := wr cs 0 (enc (⟨v, (⟨z.f1.f0, z.f1.f1, z.f1.f2, z.f1.f3, z.f1.f4⟩ : S25), z.f2⟩ : S40))) hW (by repeat (first | exact .nil | refine Pick.cons (by repeat (first | exact .z | apply OutAt.s)) ?_)) (hW.fact (p := (fun W : World => Below w0.heap.size w0 W)) (by repeat (first | exact memH | refine memT ?_))) (List.length_set ..).symm (by rw [wr_length (by show 0 + 7 ≤ _; rw [hcl]; omega)]; exact hcl) (by rw [List.length_set]; exact hxc) hcm (set_rows hx0 hcl hxc hrows)⟩))
      | refine Cj.condF rfl rfl (Cj.skip rfl (Ej.go ?_ (fun _ _ h => h)))
      | (refine Cj.condF rfl rfl (Cj.skip rfl (Ej.back (fun _ _ h => h) (by repeat (first | exact .refl | apply DropTo.tail)) ?_)); repeat (first | exact trivial | refine ⟨rfl, ?_⟩))
      | refine Cj.condF rfl rfl ?_
      | refine Cj.condT rfl rfl ?_
      | refine Cj.exit rfl (Ej.go ?_ (fun _ _ h => h))
      | refine Cj.cond rfl rfl (fun h => ?_) (fun h => ?_)
      | refine Cj.skip rfl (Ej.go ?_ (fun _ _ h => h))
      | (refine Cj.skip rfl (Ej.back (fun _ _ h => h) (by repeat (first | exact .refl | apply DropTo.tail)) ?_); repeat (first | exact trivial | refine ⟨rfl, ?_⟩))
      | refine Cj.seq rfl ?_
      | refine Cj.region rfl ?_))
            · rw [if_neg c2] at H
              injection H with H
              obtain ⟨rfl, rfl, rfl⟩ := Prod.mk.inj H |>.imp id Prod.mk.inj
              repeat (first
    | (apply gateO; first
      | refine Jl.yd (Y.mv rfl rfl) rfl rfl rfl ?_
      | refine Jl.yd (Y.asg rfl rfl) rfl rfl rfl ?_
      | refine Jl.yd (Y.ext rfl rfl rfl) rfl rfl rfl ?_
      | refine Jl.yd (Y.pickT rfl rfl rfl) rfl rfl rfl ?_
      | refine Jl.yd (Y.pickF rfl rfl rfl) rfl rfl rfl ?_
      | refine Jl.off rfl rfl rfl ?_
      | refine Jl.yd (Y.cmpF rfl rfl rfl rfl (by omega)) rfl rfl rfl ?_
      | refine Jl.yd (Y.cmpT rfl rfl rfl rfl (by omega)) rfl rfl rfl ?_
      | refine Jl.yd (Y.neqB rfl rfl rfl Try.underlying4) rfl rfl rfl ?_
      | refine Jl.yd (Y.cmp rfl rfl rfl rfl) rfl rfl rfl ?_
      | refine Jl.yd (Y.not rfl rfl) rfl rfl rfl ?_
      | refine Jl.yd (Y.arithN rfl rfl rfl rfl (by omega)) rfl rfl rfl ?_
      | refine Jl.yd (Y.arith64 rfl rfl rfl rfl) rfl rfl rfl ?_
      | refine Jl.yd (Y.lenS Try.underlying46 rfl rfl rfl) rfl rfl rfl ?_
      | refine Jl.callM (v := .int .i64 b) (.any (Cur w0 g l0 a s)) (.any (Cur w0 g l0 b1 u1)) rfl rfl rfl rfl en72 rfl (by with_reducible first | exact .z | exact .s .z | exact .s (.s .z) | exact .s (.s (.s .z)) | exact .s (.s (.s (.s .z))) | exact .s (.s (.s (.s (.s .z)))) | exact .s (.s (.s (.s (.s (.s .z))))) | exact .s (.s (.s (.s (.s (.s (.s .z))))))) (fun w hA hW hp => by with_reducible exact cur_ hp (hW.fact (p := (fun W : World => Below w0.heap.size w0 W)) (by repeat (first | exact memH | refine memT ?_))) (fun hI hB => spec_l1Cur_pick.calls g l0 a s 40 b b1 u1 w0 w hI hB F1)) ?_
      | refine Jl.splitG rfl rfl (fun h => ?_) (fun h => ?_))
    | (apply gateE; first
      | refine Jl.nil (Ej.go ?_ (fun _ _ h => h))
      | (refine Jl.nil (Ej.back (fun _ _ h => h) (by repeat (first | exact .refl | apply DropTo.tail)) ?_); repeat (first | exact trivial | refine ⟨rfl, ?_⟩)))
    | (apply gateC; first
      | refine Cj.block rfl ?_
      | refine Cj.ret rfl (Ej.out1 (P := Try.prog) (fn := Try.f81) (R := Rr) (fun _ _ h => h) rfl rfl (fun w' hW => ⟨_, rfl, ret_ hW (by repeat (first | exact .nil | refine Pick.cons (by repeat (first | exact .z | apply OutAt.s)) ?_)) (hW.fact (p := (fun W : World => Below w0.heap.size w0 W)) (by repeat (first | exact memH | refine memT ?_)))⟩))
      | refine Cj.condF rfl rfl (Cj.skip rfl (Ej.go ?_ (fun _ _ h => h)))
      | (refine Cj.condF rfl rfl (Cj.skip rfl (Ej.back (fun _ _ h => h) (by repeat (first | exact .refl | apply DropTo.tail)) ?_)); repeat (first | exact trivial | refine ⟨rfl, ?_⟩))
      | refine Cj.condF rfl rfl ?_
      | refine Cj.condT rfl rfl ?_
      | refine Cj.exit rfl (Ej.go ?_ (fun _ _ h => h))
      | refine Cj.cond rfl rfl (fun h => ?_) (fun h => ?_)
      | refine Cj.skip rfl (Ej.go ?_ (fun _ _ h => h))
      | (refine Cj.skip rfl (Ej.back (fun _ _ h => h) (by repeat (first | exact .refl | apply DropTo.tail)) ?_); repeat (first | exact trivial | refine ⟨rfl, ?_⟩))
      | refine Cj.seq rfl ?_
      | refine Cj.region rfl ?_))
end SAL
end Go.Proofs.Ytembbdhhpblapaa.WK
namespace Go.Proofs.Ytembbdhhpblapaa.Q
open Go.RowKit Go.Proofs.YtembbdhhpblapaaW.PrintWords Go.Proofs.YtembbdhhpblapaaW.PrintLast Go.Proofs.YtembbdhhpblapaaW.PrintMore
theorem spec_l1Cur_sales.calls (k : Nat) (g : Nat) (s0_0 : List Int) (s0_1 : Int) (s0_2 : Int) (r1 : List (S40)) (r2 : Int) (r3 : Int) (w0 w : World) (hI : IsS88 w0 w g s0_0 s0_1 s0_2) (hB : Below w0.heap.size w0 w) (h : spec_l1Cur_sales.f k s0_0 s0_1 s0_2 = some (r1, r2, r3)) :
  Calls Try.prog 81 #[.pointer (some ⟨g, 0, none⟩)] w fun e w' => ∃ v0_ : Value, e = .returned (v0_) ∧ Kd.R k40 40 w' w.heap.size (fun _ => True) v0_ r1 ∧ IsS88 w0 w' g s0_0 r2 r3 ∧ Below w0.heap.size w0 w' ∧ KeepBut w w' g none := WK.SAL.sales_calls k g s0_0 s0_1 s0_2 r1 r2 r3 w0 w hI hB h
end Go.Proofs.Ytembbdhhpblapaa.Q

namespace Go.Proofs.Ytembbdhhpblapaa.Q
open Go.RowKit Go.Proofs.YtembbdhhpblapaaW.PrintWords Go.Proofs.YtembbdhhpblapaaW.PrintLast Go.Proofs.YtembbdhhpblapaaW.PrintMore
attribute [local go_sem] max2_int min2_int max_two min_two max_three min_three max_four min_four
set_option linter.unusedVariables false
set_option linter.unusedSimpArgs false

/-! ### spec_DrawEstimateBy: function 45 -/
def spec_DrawEstimateBy.f (k : Nat) (l0 : List Int) : Option ((List (S40)) × Int × Int × Int × Int × Bool) := (spec_l1Cur_sales.f k l0 0 0).bind fun bt521 => ((spec_l1Cur_one.f l0 bt521.2.1 bt521.2.2 2).bind fun bt526 => (if bt526.1 = true then ((spec_l1Cur_pick.f l0 bt526.2.1 bt526.2.2 2).bind fun bt529 => ((spec_l1Cur_pick.f l0 bt529.2.1 bt529.2.2 3).bind fun bt532 => (some (bt521.1, 300, wrap64 (1600 + bt529.1), 60, wrap64 (1 + bt532.1), false)))) else ((spec_l1Cur_appraisal.f l0 bt526.2.1 bt526.2.2).bind fun bt535 => (some (bt521.1, bt535.1, bt535.2.1, bt535.2.2.1, bt535.2.2.2.1, bt535.2.2.2.2.1)))))
set_option maxHeartbeats 8000000 in
set_option maxRecDepth 100000 in
theorem spec_DrawEstimateBy.calls (k : Nat) (A0 : Option Addr) (c0 : Nat) (l0 : List Int) (r1 : List (S40)) (r2 : Int) (r3 : Int) (r4 : Int) (r5 : Int) (r6 : Bool) (w : World) (hr0 : Kd.C (Kd.int .u8) w A0 l0.length l0) (hc0 : l0.length ≤ c0) (h : spec_DrawEstimateBy.f k l0 = some (r1, r2, r3, r4, r5, r6)) :
  Calls Try.prog 45 #[.slice A0 l0.length c0] w fun e w' => ∃ v0_ : Value, e = .returned (.tuple #[v0_, .agg #[.int .i64 r2, .int .i64 r3, .int .i64 r4, .int .i64 r5, .bool r6]]) ∧ Kd.R k40 40 w' w.heap.size (fun _ => True) v0_ r1 ∧ Below w.heap.size w w' := by
 have hu25 := Try.underlying25
 have hu88 := Try.underlying88
 have HR0 := Aside0.mk hr0
 have HC0 := Aside0.mk hc0
 clear hr0 hc0
 have HB := Aside0.mk (Below.refl w.heap.size w)
 have H : ((spec_l1Cur_sales.f k l0 0 0).bind fun bt521 => ((spec_l1Cur_one.f l0 bt521.2.1 bt521.2.2 2).bind fun bt526 => (if bt526.1 = true then ((spec_l1Cur_pick.f l0 bt526.2.1 bt526.2.2 2).bind fun bt529 => ((spec_l1Cur_pick.f l0 bt529.2.1 bt529.2.2 3).bind fun bt532 => (some (bt521.1, 300, wrap64 (1600 + bt529.1), 60, wrap64 (1 + bt532.1), false)))) else ((spec_l1Cur_appraisal.f l0 bt526.2.1 bt526.2.2).bind fun bt535 => (some (bt521.1, bt535.1, bt535.2.1, bt535.2.2.1, bt535.2.2.2.1, bt535.2.2.2.2.1)))))) = some (r1, r2, r3, r4, r5, r6) := h
 clear h
 replace H := Option.bind_eq_some_iff.mp H
 obtain ⟨⟨t521, t524, t525⟩, A20, H⟩ := H
 have A2 := Aside0.mk A20
 clear A20
 replace H := Option.bind_eq_some_iff.mp H
 obtain ⟨⟨t526, t527, t528⟩, A30, H⟩ := H
 have A3 := Aside0.mk A30
 clear A30
 by_cases c4 : t526 = true
 ·subst c4
  rw [if_pos rfl] at H
  replace H := Option.bind_eq_some_iff.mp H
  obtain ⟨⟨t529, t530, t531⟩, A50, H⟩ := H
  have A5 := Aside0.mk A50
  clear A50
  replace H := Option.bind_eq_some_iff.mp H
  obtain ⟨⟨t532, t533, t534⟩, A60, H⟩ := H
  have A6 := Aside0.mk A60
  clear A60
  simp only [Option.some.injEq, Prod.mk.injEq] at H
  obtain ⟨rfl, rfl, rfl, rfl, rfl, rfl⟩ := H
  go_enter Try.func45, Try.ntmps45
  go_wp2_with (first | ((with_reducible refine gate_dst (N := 3) rfl ?_); refine box_event ?hg (N := 3) ?hd (cs := #[.int .i64 0, .int .i64 0, .int .i64 0, .int .i64 0, .bool false]) (t := 25) ?hr ?_; (case hd => rfl); (case hg => rfl); (case hr => first | (go_simp; done) | (go_simp; rfl)); intro gb519 hg w7 hbox hb; have n0_ := Aside0.mk (below_step (by repeat (first | (with_reducible first | exact HB.out | apply below_alloc | apply pw_below_drewN | apply below_drew1) | exact HB.out)) hb); have n1_ := Aside0.mk (hbox); have n2_ := Aside0.mk ((by rw [hg]; exact (below_size (by repeat (first | (with_reducible first | exact HB.out | apply below_alloc | apply pw_below_drewN | apply below_drew1) | exact HB.out))) : w.heap.size ≤ gb519)); have n3_ := Aside0.mk ((by rw [hg]; exact (below_size (by repeat (first | (with_reducible first | exact HB.out | apply below_alloc | apply pw_below_drewN | apply below_drew1) | exact HB.out))) : w.heap.size ≤ gb519)); clear HB; have HB := n0_; have BK519 := n1_; have GW519 := n2_; have GE519 := n3_; clear n0_ n1_ n2_ n3_; clear hb hbox hg) | ((with_reducible refine gate_dst (N := 8) rfl ?_); refine box_event ?hg (N := 8) ?hd (cs := #[.slice A0 l0.length c0, .int .i64 0, .int .u64 0]) (t := 88) ?hr ?_; (case hd => rfl); (case hg => rfl); (case hr => first | (go_simp; done) | (go_simp; rfl)); intro gb520 hg w8 hbox hb; have n0_ := Aside0.mk (blk_below (g := gb519) (o := .cells #[.int .i64 0, .int .i64 0, .int .i64 0, .int .i64 0, .bool false] 25 (0, 0)) (by (with_reducible repeat (first | refine blk_drewN ?_ _ | refine blk_drew ?_ | refine blk_alloc ?_ _)); exact BK519.out) hb); have n1_ := Aside0.mk (below_step (by repeat (first | (with_reducible first | exact HB.out | apply below_alloc | apply pw_below_drewN | apply below_drew1 | refine below_set ?_ GE519.out) | exact HB.out)) hb); have n2_ := Aside0.mk (hbox); have n3_ := Aside0.mk ((by rw [hg]; exact (below_size (by repeat (first | (with_reducible first | exact HB.out | apply below_alloc | apply pw_below_drewN | apply below_drew1 | refine below_set ?_ GE519.out) | exact HB.out))) : w.heap.size ≤ gb520)); have n4_ := Aside0.mk ((by rw [hg]; exact (below_size (by repeat (first | (with_reducible first | exact HB.out | apply below_alloc | apply pw_below_drewN | apply below_drew1 | refine below_set ?_ GE519.out) | exact HB.out))) : w.heap.size ≤ gb520)); have n5_ := Aside0.mk ((by rw [hg]; exact Nat.ne_of_lt (blk_lt (g := gb519) (o := .cells #[.int .i64 0, .int .i64 0, .int .i64 0, .int .i64 0, .bool false] 25 (0, 0)) (by (with_reducible repeat (first | refine blk_drewN ?_ _ | refine blk_drew ?_ | refine blk_alloc ?_ _)); exact BK519.out)) : gb519 ≠ gb520)); have n6_ := Aside0.mk ((by rw [hg]; exact Nat.ne_of_gt (blk_lt (g := gb519) (o := .cells #[.int .i64 0, .int .i64 0, .int .i64 0, .int .i64 0, .bool false] 25 (0, 0)) (by (with_reducible repeat (first | refine blk_drewN ?_ _ | refine blk_drew ?_ | refine blk_alloc ?_ _)); exact BK519.out)) : gb520 ≠ gb519)); clear BK519; clear HB; have BK519 := n0_; have HB := n1_; have BK520 := n2_; have GW520 := n3_; have GE520 := n4_; have NB519_520 := n5_; have NB520_519 := n6_; clear n0_ n1_ n2_ n3_ n4_ n5_ n6_; clear hb hbox hg) | ((with_reducible refine gate_callee (f := 81) rfl ?_); refine goesL_ (some 10) rfl rfl Try.func81 (by kernel_rfl) rfl #[.pointer (some ⟨gb520, 0, none⟩)] rfl (by (try simp only [List.map_toArray, List.map_cons, List.map_nil]); first | done | rfl | (simp only [List.length_drop, List.length_take]; rfl)) ?_; (with_reducible refine (spec_l1Cur_sales.calls k gb520 l0 0 0 t521 t524 t525 w _ ?side1 ?side2 A2.out).mono ?_); (case side1 => exact ⟨_, _, (by (with_reducible repeat (first | refine blk_drewN ?_ _ | refine blk_drew ?_ | refine blk_alloc ?_ _)); exact BK520.out), GE520.out, HR0.out⟩); (case side2 => repeat (first | (with_reducible first | exact HB.out | apply below_alloc | apply pw_below_drewN | apply below_drew1 | refine below_set ?_ (IsS88.ge HI520.out) | refine below_set ?_ GE519.out) | exact HB.out)); rintro e w9 ⟨v522, rfl, ho0, hi, hb, hk⟩; refine ⟨_, rfl, ?_⟩; have n0_ := Aside0.mk (KeepBut.blk hk (g' := gb519) (o := .cells #[.int .i64 0, .int .i64 0, .int .i64 0, .int .i64 0, .bool false] 25 (0, 0)) (by (with_reducible repeat (first | refine blk_drewN ?_ _ | refine blk_drew ?_ | refine blk_alloc ?_ _)); exact BK519.out) NB519_520.out (by simp)); have n1_ := Aside0.mk (Kd.R_lower ho0 (below_size (by repeat (first | (with_reducible first | exact HB.out | apply below_alloc | apply pw_below_drewN | apply below_drew1 | refine below_set ?_ (IsS88.ge HI520.out) | refine below_set ?_ GE519.out) | exact HB.out)))); have n2_ := Aside0.mk (hb); have n3_ := Aside0.mk (hi); clear BK519; clear HB; clear BK520; have BK519 := n0_; have HO523 := n1_; have HB := n2_; have HI520 := n3_; clear n0_ n1_ n2_ n3_; (try clear hb); (try clear hb2); (try clear hk); (try clear hi); (try clear ho0)) | ((with_reducible refine gate_callee (f := 82) rfl ?_); refine goesL_ (some 12) rfl rfl Try.func82 (by kernel_rfl) rfl #[.pointer (some ⟨gb520, 0, none⟩), .int .i64 2] rfl (by (try simp only [List.map_toArray, List.map_cons, List.map_nil]); first | done | rfl | (simp only [List.length_drop, List.length_take]; rfl)) ?_; (with_reducible refine (spec_l1Cur_one.calls gb520 l0 t524 t525 2 true t527 t528 w _ ?side1 ?side2 A3.out).mono ?_); (case side1 => repeat (first | (with_reducible first | exact HI520.out | apply IsS88.alloc | apply IsS88.drewN | apply IsS88.drew | apply IsS88.set_1 | apply IsS88.set_2 | refine IsS88.far ?_ NB520_519.out _) | exact HI520.out)); (case side2 => repeat (first | (with_reducible first | exact HB.out | apply below_alloc | apply pw_below_drewN | apply below_drew1 | refine below_set ?_ (IsS88.ge HI520.out) | refine below_set ?_ GE519.out) | exact HB.out)); rintro e w10 ⟨rfl, hi, hb, hk⟩; refine ⟨_, rfl, ?_⟩; have n0_ := Aside0.mk (KeepBut.blk hk (g' := gb519) (o := .cells #[.int .i64 0, .int .i64 0, .int .i64 0, .int .i64 0, .bool false] 25 (0, 0)) (by (with_reducible repeat (first | refine blk_drewN ?_ _ | refine blk_drew ?_ | refine blk_alloc ?_ _)); exact BK519.out) NB519_520.out (by simp)); have n1_ := Aside0.mk (Kd.R_mono (Kd.R_keep (IsS88.apart (show IsS88 w _ gb520 l0 t524 t525 from by repeat (first | (with_reducible first | exact HI520.out | apply IsS88.alloc | apply IsS88.drewN | apply IsS88.drew | apply IsS88.set_1 | apply IsS88.set_2 | refine IsS88.far ?_ NB520_519.out _) | exact HI520.out)) (by (with_reducible repeat (first | apply Kd.R_alloc | apply Kd.R_drewN | apply Kd.R_drew)); exact HO523.out) (by decide)) hk (fun _ h => h.2)) (fun _ h => h.1)); have n2_ := Aside0.mk (hb); have n3_ := Aside0.mk (hi); clear BK519; clear HO523; clear HB; clear HI520; have BK519 := n0_; have HO523 := n1_; have HB := n2_; have HI520 := n3_; clear n0_ n1_ n2_ n3_; (try clear hb); (try clear hb2); (try clear hk); (try clear hi)) | ((with_reducible refine gate_callee (f := 72) rfl ?_); refine goesL_ (some 15) rfl rfl Try.func72 (by kernel_rfl) rfl #[.pointer (some ⟨gb520, 0, none⟩), .int .i64 2] rfl (by (try simp only [List.map_toArray, List.map_cons, List.map_nil]); first | done | rfl | (simp only [List.length_drop, List.length_take]; rfl)) ?_; (with_reducible refine (spec_l1Cur_pick.calls gb520 l0 t527 t528 2 t529 t530 t531 w _ ?side1 ?side2 A5.out).mono ?_); (case side1 => repeat (first | (with_reducible first | exact HI520.out | apply IsS88.alloc | apply IsS88.drewN | apply IsS88.drew | apply IsS88.set_1 | apply IsS88.set_2 | refine IsS88.far ?_ NB520_519.out _) | exact HI520.out)); (case side2 => repeat (first | (with_reducible first | exact HB.out | apply below_alloc | apply pw_below_drewN | apply below_drew1 | refine below_set ?_ (IsS88.ge HI520.out) | refine below_set ?_ GE519.out) | exact HB.out)); rintro e w11 ⟨rfl, hi, hb, hk⟩; refine ⟨_, rfl, ?_⟩; have n0_ := Aside0.mk (KeepBut.blk hk (g' := gb519) (o := .cells #[.int .i64 0, .int .i64 0, .int .i64 0, .int .i64 0, .bool false] 25 (0, 0)) (by (with_reducible repeat (first | refine blk_drewN ?_ _ | refine blk_drew ?_ | refine blk_alloc ?_ _)); exact BK519.out) NB519_520.out (by simp)); have n1_ := Aside0.mk (Kd.R_mono (Kd.R_keep (IsS88.apart (show IsS88 w _ gb520 l0 t527 t528 from by repeat (first | (with_reducible first | exact HI520.out | apply IsS88.alloc | apply IsS88.drewN | apply IsS88.drew | apply IsS88.set_1 | apply IsS88.set_2 | refine IsS88.far ?_ NB520_519.out _) | exact HI520.out)) (by (with_reducible repeat (first | apply Kd.R_alloc | apply Kd.R_drewN | apply Kd.R_drew)); exact HO523.out) (by decide)) hk (fun _ h => h.2)) (fun _ h => h.1)); have n2_ := Aside0.mk (hb); have n3_ := Aside0.mk (hi); clear BK519; clear HO523; clear HB; clear HI520; have BK519 := n0_; have HO523 := n1_; have HB := n2_; have HI520 := n3_; clear n0_ n1_ n2_ n3_; (try clear hb); (try clear hb2); (try clear hk); (try clear hi)) | ((with_reducible refine gate_callee (f := 72) rfl ?_); refine goesL_ (some 18) rfl rfl Try.func72 (by kernel_rfl) rfl #[.pointer (some ⟨gb520, 0, none⟩), .int .i64 3] rfl (by (try simp only [List.map_toArray, List.map_cons, List.map_nil]); first | done | rfl | (simp only [List.length_drop, List.length_take]; rfl)) ?_; (with_reducible refine (spec_l1Cur_pick.calls gb520 l0 t530 t531 3 t532 t533 t534 w _ ?side1 ?side2 A6.out).mono ?_); (case side1 => repeat (first | (with_reducible first | exact HI520.out | apply IsS88.alloc | apply IsS88.drewN | apply IsS88.drew | apply IsS88.set_1 | apply IsS88.set_2 | refine IsS88.far ?_ NB520_519.out _) | exact HI520.out)); (case side2 => repeat (first | (with_reducible first | exact HB.out | apply below_alloc | apply pw_below_drewN | apply below_drew1 | refine below_set ?_ (IsS88.ge HI520.out) | refine below_set ?_ GE519.out) | exact HB.out)); rintro e w12 ⟨rfl, hi, hb, hk⟩; refine ⟨_, rfl, ?_⟩; have n0_ := Aside0.mk (KeepBut.blk hk (g' := gb519) (o := .cells #[.int .i64 0, .int .i64 0, .int .i64 0, .int .i64 0, .bool false] 25 (0, 0)) (by (with_reducible repeat (first | refine blk_drewN ?_ _ | refine blk_drew ?_ | refine blk_alloc ?_ _)); exact BK519.out) NB519_520.out (by simp)); have n1_ := Aside0.mk (Kd.R_mono (Kd.R_keep (IsS88.apart (show IsS88 w _ gb520 l0 t530 t531 from by repeat (first | (with_reducible first | exact HI520.out | apply IsS88.alloc | apply IsS88.drewN | apply IsS88.drew | apply IsS88.set_1 | apply IsS88.set_2 | refine IsS88.far ?_ NB520_519.out _) | exact HI520.out)) (by (with_reducible repeat (first | apply Kd.R_alloc | apply Kd.R_drewN | apply Kd.R_drew)); exact HO523.out) (by decide)) hk (fun _ h => h.2)) (fun _ h => h.1)); have n2_ := Aside0.mk (hb); have n3_ := Aside0.mk (hi); clear BK519; clear HO523; clear HB; clear HI520; have BK519 := n0_; have HO523 := n1_; have HB := n2_; have HI520 := n3_; clear n0_ n1_ n2_ n3_; (try clear hb); (try clear hb2); (try clear hk); (try clear hi); have hnb13 := NB519_520.out; have hnc13 := NB520_519.out; have hcz14_0 : w12.cell? ⟨gb519, 0, none⟩ = some (.int .i64 0) := (blk_cell BK519.out 0).trans rfl; have hcz14_1 : w12.cell? ⟨gb519, 1, none⟩ = some (.int .i64 0) := (blk_cell BK519.out 1).trans rfl; have hcz14_2 : w12.cell? ⟨gb519, 2, none⟩ = some (.int .i64 0) := (blk_cell BK519.out 2).trans rfl; have hcz14_3 : w12.cell? ⟨gb519, 3, none⟩ = some (.int .i64 0) := (blk_cell BK519.out 3).trans rfl; have hcz14_4 : w12.cell? ⟨gb519, 4, none⟩ = some (.bool false) := (blk_cell BK519.out 4).trans rfl; have hfz14_0 := blk_frozen BK519.out 0; have hfz14_1 := blk_frozen BK519.out 1; have hfz14_2 := blk_frozen BK519.out 2; have hfz14_3 := blk_frozen BK519.out 3; have hfz14_4 := blk_frozen BK519.out 4))
  refine bodyPost_ret (results_tc rfl _ _ gb519 25 #[.int .i64 300, .int .i64 (wrap64 (1600 + t529)), .int .i64 60, .int .i64 (wrap64 (1 + t532)), .bool false] (0, 0) _ rfl (by (with_reducible repeat (first | refine blk_drewN ?_ _ | refine blk_drew ?_ | refine blk_alloc ?_ _)); refine blk_put (cs := #[.int .i64 300, .int .i64 (wrap64 (1600 + t529)), .int .i64 60, .int .i64 (wrap64 (1 + t532)), .bool false]) ?_ 4 _ rfl; (with_reducible repeat (first | refine blk_drewN ?_ _ | refine blk_drew ?_ | refine blk_alloc ?_ _)); refine blk_put (cs := #[.int .i64 300, .int .i64 (wrap64 (1600 + t529)), .int .i64 60, .int .i64 0, .bool false]) ?_ 3 _ rfl; (with_reducible repeat (first | refine blk_drewN ?_ _ | refine blk_drew ?_ | refine blk_alloc ?_ _)); refine blk_put (cs := #[.int .i64 300, .int .i64 (wrap64 (1600 + t529)), .int .i64 0, .int .i64 0, .bool false]) ?_ 2 _ rfl; (with_reducible repeat (first | refine blk_drewN ?_ _ | refine blk_drew ?_ | refine blk_alloc ?_ _)); refine blk_put (cs := #[.int .i64 300, .int .i64 0, .int .i64 0, .int .i64 0, .bool false]) ?_ 1 _ rfl; (with_reducible repeat (first | refine blk_drewN ?_ _ | refine blk_drew ?_ | refine blk_alloc ?_ _)); refine blk_put (cs := #[.int .i64 0, .int .i64 0, .int .i64 0, .int .i64 0, .bool false]) ?_ 0 _ rfl; (with_reducible repeat (first | refine blk_drewN ?_ _ | refine blk_drew ?_ | refine blk_alloc ?_ _)); exact BK519.out) Try.underlying25 rfl (by kernel_rfl)) rfl ?_
  exact ⟨_, by first | rfl | (simp [errW_none, errW_some] <;> rfl) | (simp [*, errW_none, errW_some] <;> rfl) | (simp [wrap64]; done), by (with_reducible repeat (first | apply Kd.R_alloc | apply Kd.R_drewN | apply Kd.R_drew)); exact Kd.R_mono (Kd.R_far (p := ⟨gb519, 4, none⟩) (Kd.R_far (p := ⟨gb519, 3, none⟩) (Kd.R_far (p := ⟨gb519, 2, none⟩) (Kd.R_far (p := ⟨gb519, 1, none⟩) (Kd.R_far (p := ⟨gb519, 0, none⟩) (Kd.R_types HO523.out BK519.out (by decide)) (fun _ hk => hk.2) (.int .i64 300)) (fun _ hk => hk.2) (.int .i64 (wrap64 (1600 + t529)))) (fun _ hk => hk.2) (.int .i64 60)) (fun _ hk => hk.2) (.int .i64 (wrap64 (1 + t532)))) (fun _ hk => hk.2) (.bool false)) (fun _ hk => trivial), by repeat (first | (with_reducible first | exact HB.out | apply below_alloc | apply pw_below_drewN | apply below_drew1 | refine below_set ?_ (IsS88.ge HI520.out) | refine below_set ?_ GE519.out) | exact HB.out)⟩
 ·replace c4 := Bool.eq_false_iff.mpr c4
  subst c4
  rw [if_neg (show ¬ (false = true) by decide)] at H
  replace H := Option.bind_eq_some_iff.mp H
  obtain ⟨⟨t535, t536, t537, t538, t539, t540, t541⟩, A150, H⟩ := H
  have A15 := Aside0.mk A150
  clear A150
  simp only [Option.some.injEq, Prod.mk.injEq] at H
  obtain ⟨rfl, rfl, rfl, rfl, rfl, rfl⟩ := H
  go_enter Try.func45, Try.ntmps45
  go_wp2_with (first | ((with_reducible refine gate_dst (N := 3) rfl ?_); refine box_event ?hg (N := 3) ?hd (cs := #[.int .i64 0, .int .i64 0, .int .i64 0, .int .i64 0, .bool false]) (t := 25) ?hr ?_; (case hd => rfl); (case hg => rfl); (case hr => first | (go_simp; done) | (go_simp; rfl)); intro gb519 hg w16 hbox hb; have n0_ := Aside0.mk (below_step (by repeat (first | (with_reducible first | exact HB.out | apply below_alloc | apply pw_below_drewN | apply below_drew1) | exact HB.out)) hb); have n1_ := Aside0.mk (hbox); have n2_ := Aside0.mk ((by rw [hg]; exact (below_size (by repeat (first | (with_reducible first | exact HB.out | apply below_alloc | apply pw_below_drewN | apply below_drew1) | exact HB.out))) : w.heap.size ≤ gb519)); have n3_ := Aside0.mk ((by rw [hg]; exact (below_size (by repeat (first | (with_reducible first | exact HB.out | apply below_alloc | apply pw_below_drewN | apply below_drew1) | exact HB.out))) : w.heap.size ≤ gb519)); clear HB; have HB := n0_; have BK519 := n1_; have GW519 := n2_; have GE519 := n3_; clear n0_ n1_ n2_ n3_; clear hb hbox hg) | ((with_reducible refine gate_dst (N := 8) rfl ?_); refine box_event ?hg (N := 8) ?hd (cs := #[.slice A0 l0.length c0, .int .i64 0, .int .u64 0]) (t := 88) ?hr ?_; (case hd => rfl); (case hg => rfl); (case hr => first | (go_simp; done) | (go_simp; rfl)); intro gb520 hg w17 hbox hb; have n0_ := Aside0.mk (blk_below (g := gb519) (o := .cells #[.int .i64 0, .int .i64 0, .int .i64 0, .int .i64 0, .bool false] 25 (0, 0)) (by (with_reducible repeat (first | refine blk_drewN ?_ _ | refine blk_drew ?_ | refine blk_alloc ?_ _)); exact BK519.out) hb); have n1_ := Aside0.mk (below_step (by repeat (first | (with_reducible first | exact HB.out | apply below_alloc | apply pw_below_drewN | apply below_drew1 | refine below_set ?_ GE519.out) | exact HB.out)) hb); have n2_ := Aside0.mk (hbox); have n3_ := Aside0.mk ((by rw [hg]; exact (below_size (by repeat (first | (with_reducible first | exact HB.out | apply below_alloc | apply pw_below_drewN | apply below_drew1 | refine below_set ?_ GE519.out) | exact HB.out))) : w.heap.size ≤ gb520)); have n4_ := Aside0.mk ((by rw [hg]; exact (below_size (by repeat (first | (with_reducible first | exact HB.out | apply below_alloc | apply pw_below_drewN | apply below_drew1 | refine below_set ?_ GE519.out) | exact HB.out))) : w.heap.size ≤ gb520)); have n5_ := Aside0.mk ((by rw [hg]; exact Nat.ne_of_lt (blk_lt (g := gb519) (o := .cells #[.int .i64 0, .int .i64 0, .int .i64 0, .int .i64 0, .bool false] 25 (0, 0)) (by (with_reducible repeat (first | refine blk_drewN ?_ _ | refine blk_drew ?_ | refine blk_alloc ?_ _)); exact BK519.out)) : gb519 ≠ gb520)); have n6_ := Aside0.mk ((by rw [hg]; exact Nat.ne_of_gt (blk_lt (g := gb519) (o := .cells #[.int .i64 0, .int .i64 0, .int .i64 0, .int .i64 0, .bool false] 25 (0, 0)) (by (with_reducible repeat (first | refine blk_drewN ?_ _ | refine blk_drew ?_ | refine blk_alloc ?_ _)); exact BK519.out)) : gb520 ≠ gb519)); clear BK519; clear HB; have BK519 := n0_; have HB := n1_; have BK520 := n2_; have GW520 := n3_; have GE520 := n4_; have NB519_520 := n5_; have NB520_519 := n6_; clear n0_ n1_ n2_ n3_ n4_ n5_ n6_; clear hb hbox hg) | ((with_reducible refine gate_callee (f := 81) rfl ?_); refine goesL_ (some 10) rfl rfl Try.func81 (by kernel_rfl) rfl #[.pointer (some ⟨gb520, 0, none⟩)] rfl (by (try simp only [List.map_toArray, List.map_cons, List.map_nil]); first | done | rfl | (simp only [List.length_drop, List.length_take]; rfl)) ?_; (with_reducible refine (spec_l1Cur_sales.calls k gb520 l0 0 0 t521 t524 t525 w _ ?side1 ?side2 A2.out).mono ?_); (case side1 => exact ⟨_, _, (by (with_reducible repeat (first | refine blk_drewN ?_ _ | refine blk_drew ?_ | refine blk_alloc ?_ _)); exact BK520.out), GE520.out, HR0.out⟩); (case side2 => repeat (first | (with_reducible first | exact HB.out | apply below_alloc | apply pw_below_drewN | apply below_drew1 | refine below_set ?_ (IsS88.ge HI520.out) | refine below_set ?_ GE519.out) | exact HB.out)); rintro e w18 ⟨v522, rfl, ho0, hi, hb, hk⟩; refine ⟨_, rfl, ?_⟩; have n0_ := Aside0.mk (KeepBut.blk hk (g' := gb519) (o := .cells #[.int .i64 0, .int .i64 0, .int .i64 0, .int .i64 0, .bool false] 25 (0, 0)) (by (with_reducible repeat (first | refine blk_drewN ?_ _ | refine blk_drew ?_ | refine blk_alloc ?_ _)); exact BK519.out) NB519_520.out (by simp)); have n1_ := Aside0.mk (Kd.R_lower ho0 (below_size (by repeat (first | (with_reducible first | exact HB.out | apply below_alloc | apply pw_below_drewN | apply below_drew1 | refine below_set ?_ (IsS88.ge HI520.out) | refine below_set ?_ GE519.out) | exact HB.out)))); have n2_ := Aside0.mk (hb); have n3_ := Aside0.mk (hi); clear BK519; clear HB; clear BK520; have BK519 := n0_; have HO523 := n1_; have HB := n2_; have HI520 := n3_; clear n0_ n1_ n2_ n3_; (try clear hb); (try clear hb2); (try clear hk); (try clear hi); (try clear ho0)) | ((with_reducible refine gate_callee (f := 82) rfl ?_); refine goesL_ (some 12) rfl rfl Try.func82 (by kernel_rfl) rfl #[.pointer (some ⟨gb520, 0, none⟩), .int .i64 2] rfl (by (try simp only [List.map_toArray, List.map_cons, List.map_nil]); first | done | rfl | (simp only [List.length_drop, List.length_take]; rfl)) ?_; (with_reducible refine (spec_l1Cur_one.calls gb520 l0 t524 t525 2 false t527 t528 w _ ?side1 ?side2 A3.out).mono ?_); (case side1 => repeat (first | (with_reducible first | exact HI520.out | apply IsS88.alloc | apply IsS88.drewN | apply IsS88.drew | apply IsS88.set_1 | apply IsS88.set_2 | refine IsS88.far ?_ NB520_519.out _) | exact HI520.out)); (case side2 => repeat (first | (with_reducible first | exact HB.out | apply below_alloc | apply pw_below_drewN | apply below_drew1 | refine below_set ?_ (IsS88.ge HI520.out) | refine below_set ?_ GE519.out) | exact HB.out)); rintro e w19 ⟨rfl, hi, hb, hk⟩; refine ⟨_, rfl, ?_⟩; have n0_ := Aside0.mk (KeepBut.blk hk (g' := gb519) (o := .cells #[.int .i64 0, .int .i64 0, .int .i64 0, .int .i64 0, .bool false] 25 (0, 0)) (by (with_reducible repeat (first | refine blk_drewN ?_ _ | refine blk_drew ?_ | refine blk_alloc ?_ _)); exact BK519.out) NB519_520.out (by simp)); have n1_ := Aside0.mk (Kd.R_mono (Kd.R_keep (IsS88.apart (show IsS88 w _ gb520 l0 t524 t525 from by repeat (first | (with_reducible first | exact HI520.out | apply IsS88.alloc | apply IsS88.drewN | apply IsS88.drew | apply IsS88.set_1 | apply IsS88.set_2 | refine IsS88.far ?_ NB520_519.out _) | exact HI520.out)) (by (with_reducible repeat (first | apply Kd.R_alloc | apply Kd.R_drewN | apply Kd.R_drew)); exact HO523.out) (by decide)) hk (fun _ h => h.2)) (fun _ h => h.1)); have n2_ := Aside0.mk (hb); have n3_ := Aside0.mk (hi); clear BK519; clear HO523; clear HB; clear HI520; have BK519 := n0_; have HO523 := n1_; have HB := n2_; have HI520 := n3_; clear n0_ n1_ n2_ n3_; (try clear hb); (try clear hb2); (try clear hk); (try clear hi)) | ((with_reducible refine gate_callee (f := 70) rfl ?_); refine goesL_ (some 23) rfl rfl Try.func70 (by kernel_rfl) rfl #[.pointer (some ⟨gb520, 0, none⟩)] rfl (by (try simp only [List.map_toArray, List.map_cons, List.map_nil]); first | done | rfl | (simp only [List.length_drop, List.length_take]; rfl)) ?_; (with_reducible refine (spec_l1Cur_appraisal.calls gb520 l0 t527 t528 t535 t536 t537 t538 t539 t540 t541 w _ ?side1 ?side2 A15.out).mono ?_); (case side1 => repeat (first | (with_reducible first | exact HI520.out | apply IsS88.alloc | apply IsS88.drewN | apply IsS88.drew | apply IsS88.set_1 | apply IsS88.set_2 | refine IsS88.far ?_ NB520_519.out _) | exact HI520.out)); (case side2 => repeat (first | (with_reducible first | exact HB.out | apply below_alloc | apply pw_below_drewN | apply below_drew1 | refine below_set ?_ (IsS88.ge HI520.out) | refine below_set ?_ GE519.out) | exact HB.out)); rintro e w20 ⟨rfl, hi, hb, hk⟩; refine ⟨_, rfl, ?_⟩; have n0_ := Aside0.mk (KeepBut.blk hk (g' := gb519) (o := .cells #[.int .i64 0, .int .i64 0, .int .i64 0, .int .i64 0, .bool false] 25 (0, 0)) (by (with_reducible repeat (first | refine blk_drewN ?_ _ | refine blk_drew ?_ | refine blk_alloc ?_ _)); exact BK519.out) NB519_520.out (by simp)); have n1_ := Aside0.mk (Kd.R_mono (Kd.R_keep (IsS88.apart (show IsS88 w _ gb520 l0 t527 t528 from by repeat (first | (with_reducible first | exact HI520.out | apply IsS88.alloc | apply IsS88.drewN | apply IsS88.drew | apply IsS88.set_1 | apply IsS88.set_2 | refine IsS88.far ?_ NB520_519.out _) | exact HI520.out)) (by (with_reducible repeat (first | apply Kd.R_alloc | apply Kd.R_drewN | apply Kd.R_drew)); exact HO523.out) (by decide)) hk (fun _ h => h.2)) (fun _ h => h.1)); have n2_ := Aside0.mk (hb); have n3_ := Aside0.mk (hi); clear BK519; clear HO523; clear HB; clear HI520; have BK519 := n0_; have HO523 := n1_; have HB := n2_; have HI520 := n3_; clear n0_ n1_ n2_ n3_; (try clear hb); (try clear hb2); (try clear hk); (try clear hi); have hnb21 := NB519_520.out; have hnc21 := NB520_519.out; have hcz22_0 : w20.cell? ⟨gb519, 0, none⟩ = some (.int .i64 0) := (blk_cell BK519.out 0).trans rfl; have hcz22_1 : w20.cell? ⟨gb519, 1, none⟩ = some (.int .i64 0) := (blk_cell BK519.out 1).trans rfl; have hcz22_2 : w20.cell? ⟨gb519, 2, none⟩ = some (.int .i64 0) := (blk_cell BK519.out 2).trans rfl; have hcz22_3 : w20.cell? ⟨gb519, 3, none⟩ = some (.int .i64 0) := (blk_cell BK519.out 3).trans rfl; have hcz22_4 : w20.cell? ⟨gb519, 4, none⟩ = some (.bool false) := (blk_cell BK519.out 4).trans rfl; have hfz22_0 := blk_frozen BK519.out 0; have hfz22_1 := blk_frozen BK519.out 1; have hfz22_2 := blk_frozen BK519.out 2; have hfz22_3 := blk_frozen BK519.out 3; have hfz22_4 := blk_frozen BK519.out 4))
  refine bodyPost_ret (results_tc rfl _ _ gb519 25 #[.int .i64 t535, .int .i64 t536, .int .i64 t537, .int .i64 t538, .bool t539] (0, 0) _ rfl (by (with_reducible repeat (first | refine blk_drewN ?_ _ | refine blk_drew ?_ | refine blk_alloc ?_ _)); refine blk_put (cs := #[.int .i64 t535, .int .i64 t536, .int .i64 t537, .int .i64 t538, .bool false]) ?_ 4 _ rfl; (with_reducible repeat (first | refine blk_drewN ?_ _ | refine blk_drew ?_ | refine blk_alloc ?_ _)); refine blk_put (cs := #[.int .i64 t535, .int .i64 t536, .int .i64 t537, .int .i64 0, .bool false]) ?_ 3 _ rfl; (with_reducible repeat (first | refine blk_drewN ?_ _ | refine blk_drew ?_ | refine blk_alloc ?_ _)); refine blk_put (cs := #[.int .i64 t535, .int .i64 t536, .int .i64 0, .int .i64 0, .bool false]) ?_ 2 _ rfl; (with_reducible repeat (first | refine blk_drewN ?_ _ | refine blk_drew ?_ | refine blk_alloc ?_ _)); refine blk_put (cs := #[.int .i64 t535, .int .i64 0, .int .i64 0, .int .i64 0, .bool false]) ?_ 1 _ rfl; (with_reducible repeat (first | refine blk_drewN ?_ _ | refine blk_drew ?_ | refine blk_alloc ?_ _)); refine blk_put (cs := #[.int .i64 0, .int .i64 0, .int .i64 0, .int .i64 0, .bool false]) ?_ 0 _ rfl; (with_reducible repeat (first | refine blk_drewN ?_ _ | refine blk_drew ?_ | refine blk_alloc ?_ _)); exact BK519.out) Try.underlying25 rfl (by kernel_rfl)) rfl ?_
  exact ⟨_, by first | rfl | (simp [errW_none, errW_some] <;> rfl) | (simp [*, errW_none, errW_some] <;> rfl) | (simp [wrap64]; done), by (with_reducible repeat (first | apply Kd.R_alloc | apply Kd.R_drewN | apply Kd.R_drew)); exact Kd.R_mono (Kd.R_far (p := ⟨gb519, 4, none⟩) (Kd.R_far (p := ⟨gb519, 3, none⟩) (Kd.R_far (p := ⟨gb519, 2, none⟩) (Kd.R_far (p := ⟨gb519, 1, none⟩) (Kd.R_far (p := ⟨gb519, 0, none⟩) (Kd.R_types HO523.out BK519.out (by decide)) (fun _ hk => hk.2) (.int .i64 t535)) (fun _ hk => hk.2) (.int .i64 t536)) (fun _ hk => hk.2) (.int .i64 t537)) (fun _ hk => hk.2) (.int .i64 t538)) (fun _ hk => hk.2) (.bool t539)) (fun _ hk => trivial), by repeat (first | (with_reducible first | exact HB.out | apply below_alloc | apply pw_below_drewN | apply below_drew1 | refine below_set ?_ (IsS88.ge HI520.out) | refine below_set ?_ GE519.out) | exact HB.out)⟩

end Go.Proofs.Ytembbdhhpblapaa.Q

namespace Go.Proofs.Ytembbdhhpblapaa.Q
open Go.RowKit Go.Proofs.YtembbdhhpblapaaW.PrintWords Go.Proofs.YtembbdhhpblapaaW.PrintLast Go.Proofs.YtembbdhhpblapaaW.PrintMore
attribute [local go_sem] max2_int min2_int max_two min_two max_three min_three max_four min_four
set_option linter.unusedVariables false
set_option linter.unusedSimpArgs false

/-! ### spec_DrawAreSales: function 83 -/
def spec_DrawAreSales.f (k : Nat) (l0 : List Int) : Option ((List (S40))) := (spec_l1Cur_sales.f k l0 0 0).bind fun bt543 => (some bt543.1)
set_option maxHeartbeats 8000000 in
set_option maxRecDepth 100000 in
theorem spec_DrawAreSales.calls (k : Nat) (A0 : Option Addr) (c0 : Nat) (l0 : List Int) (r : List (S40)) (w : World) (hr0 : Kd.C (Kd.int .u8) w A0 l0.length l0) (hc0 : l0.length ≤ c0) (h : spec_DrawAreSales.f k l0 = some r) :
  Calls Try.prog 83 #[.slice A0 l0.length c0] w fun e w' => ∃ v0_ : Value, e = .returned (v0_) ∧ Kd.R k40 40 w' w.heap.size (fun _ => True) v0_ r ∧ Below w.heap.size w w' := by
 have hu88 := Try.underlying88
 have HR0 := Aside0.mk hr0
 have HC0 := Aside0.mk hc0
 clear hr0 hc0
 have HB := Aside0.mk (Below.refl w.heap.size w)
 have H : ((spec_l1Cur_sales.f k l0 0 0).bind fun bt543 => (some bt543.1)) = some r := h
 clear h
 replace H := Option.bind_eq_some_iff.mp H
 obtain ⟨⟨t543, t546, t547⟩, A20, H⟩ := H
 have A2 := Aside0.mk A20
 clear A20
 obtain rfl := Option.some.inj H
 go_enter Try.func83, Try.ntmps83
 go_wp2_with (first | ((with_reducible refine gate_dst (N := 6) rfl ?_); refine box_event ?hg (N := 6) ?hd (cs := #[.slice A0 l0.length c0, .int .i64 0, .int .u64 0]) (t := 88) ?hr ?_; (case hd => rfl); (case hg => rfl); (case hr => first | (go_simp; done) | (go_simp; rfl)); intro gb542 hg w3 hbox hb; have n0_ := Aside0.mk (below_step (by repeat (first | (with_reducible first | exact HB.out | apply below_alloc | apply pw_below_drewN | apply below_drew1) | exact HB.out)) hb); have n1_ := Aside0.mk (hbox); have n2_ := Aside0.mk ((by rw [hg]; exact (below_size (by repeat (first | (with_reducible first | exact HB.out | apply below_alloc | apply pw_below_drewN | apply below_drew1) | exact HB.out))) : w.heap.size ≤ gb542)); have n3_ := Aside0.mk ((by rw [hg]; exact (below_size (by repeat (first | (with_reducible first | exact HB.out | apply below_alloc | apply pw_below_drewN | apply below_drew1) | exact HB.out))) : w.heap.size ≤ gb542)); clear HB; have HB := n0_; have BK542 := n1_; have GW542 := n2_; have GE542 := n3_; clear n0_ n1_ n2_ n3_; clear hb hbox hg) | ((with_reducible refine gate_callee (f := 81) rfl ?_); refine goesL_ (some 8) rfl rfl Try.func81 (by kernel_rfl) rfl #[.pointer (some ⟨gb542, 0, none⟩)] rfl (by (try simp only [List.map_toArray, List.map_cons, List.map_nil]); first | done | rfl | (simp only [List.length_drop, List.length_take]; rfl)) ?_; (with_reducible refine (spec_l1Cur_sales.calls k gb542 l0 0 0 t543 t546 t547 w _ ?side1 ?side2 A2.out).mono ?_); (case side1 => exact ⟨_, _, (by (with_reducible repeat (first | refine blk_drewN ?_ _ | refine blk_drew ?_ | refine blk_alloc ?_ _)); exact BK542.out), GE542.out, HR0.out⟩); (case side2 => repeat (first | (with_reducible first | exact HB.out | apply below_alloc | apply pw_below_drewN | apply below_drew1 | refine below_set ?_ (IsS88.ge HI542.out)) | exact HB.out)); rintro e w4 ⟨v544, rfl, ho0, hi, hb, hk⟩; refine ⟨_, rfl, ?_⟩; have n0_ := Aside0.mk (Kd.R_lower ho0 (below_size (by repeat (first | (with_reducible first | exact HB.out | apply below_alloc | apply pw_below_drewN | apply below_drew1 | refine below_set ?_ (IsS88.ge HI542.out)) | exact HB.out)))); have n1_ := Aside0.mk (hb); have n2_ := Aside0.mk (hi); clear HB; clear BK542; have HO545 := n0_; have HB := n1_; have HI542 := n2_; clear n0_ n1_ n2_; (try clear hb); (try clear hb2); (try clear hk); (try clear hi); (try clear ho0)))
 go_ret
 exact ⟨_, by first | rfl | (simp [errW_none, errW_some] <;> rfl) | (simp [*, errW_none, errW_some] <;> rfl) | (simp [wrap64]; done), by (with_reducible repeat (first | apply Kd.R_alloc | apply Kd.R_drewN | apply Kd.R_drew)); exact HO545.out, by repeat (first | (with_reducible first | exact HB.out | apply below_alloc | apply pw_below_drewN | apply below_drew1 | refine below_set ?_ (IsS88.ge HI542.out)) | exact HB.out)⟩

end Go.Proofs.Ytembbdhhpblapaa.Q

namespace Go.Proofs.Ytembbdhhpblapaa.Q
open Go.RowKit Go.Proofs.YtembbdhhpblapaaW.PrintWords Go.Proofs.YtembbdhhpblapaaW.PrintLast Go.Proofs.YtembbdhhpblapaaW.PrintMore
attribute [local go_sem] max2_int min2_int max_two min_two max_three min_three max_four min_four
set_option linter.unusedVariables false
set_option linter.unusedSimpArgs false

/-! ### spec_DrawYearMeans: function 46 -/
def spec_DrawYearMeans.f (k : Nat) (l0 : List Int) : Option ((List (S40))) := (spec_DrawAreSales.f k l0).bind fun t548 => (some t548)
set_option maxHeartbeats 8000000 in
set_option maxRecDepth 100000 in
theorem spec_DrawYearMeans.calls (k : Nat) (A0 : Option Addr) (c0 : Nat) (l0 : List Int) (r : List (S40)) (w : World) (hr0 : Kd.C (Kd.int .u8) w A0 l0.length l0) (hc0 : l0.length ≤ c0) (h : spec_DrawYearMeans.f k l0 = some r) :
  Calls Try.prog 46 #[.slice A0 l0.length c0] w fun e w' => ∃ v0_ : Value, e = .returned (v0_) ∧ Kd.R k40 40 w' w.heap.size (fun _ => True) v0_ r ∧ Below w.heap.size w w' := by
 have HR0 := Aside0.mk hr0
 have HC0 := Aside0.mk hc0
 clear hr0 hc0
 have HB := Aside0.mk (Below.refl w.heap.size w)
 have H : ((spec_DrawAreSales.f k l0).bind fun t548 => (some t548)) = some r := h
 clear h
 replace H := Option.bind_eq_some_iff.mp H
 obtain ⟨t548, A20, H⟩ := H
 have A2 := Aside0.mk A20
 clear A20
 obtain rfl := Option.some.inj H
 go_enter Try.func46, Try.ntmps46
 go_wp2_with (first | ((with_reducible refine gate_callee (f := 83) rfl ?_); refine goesL_ (some 4) rfl rfl Try.func83 (by kernel_rfl) rfl #[.slice A0 l0.length c0] rfl (by (try simp only [List.map_toArray, List.map_cons, List.map_nil]); first | done | rfl | (simp only [List.length_drop, List.length_take]; rfl)) ?_; (with_reducible refine (spec_DrawAreSales.calls k _ _ l0 t548 _ ?side1 ?side2 A2.out).mono ?_); (case side1 => repeat (first | exact HR0.out | (with_reducible refine Kd.C_alloc ?_ _) | (with_reducible refine Kd.C_drewN ?_ _) | (with_reducible refine Kd.C_drew ?_))); (case side2 => exact HC0.out); rintro e w3 ⟨v549, rfl, ho0, hb⟩; refine ⟨_, rfl, ?_⟩; have n0_ := Aside0.mk (Kd.R_lower ho0 (below_size (by repeat (first | (with_reducible first | exact HB.out | apply below_alloc | apply pw_below_drewN | apply below_drew1) | exact HB.out)))); have n1_ := Aside0.mk (below_step (by repeat (first | (with_reducible first | exact HB.out | apply below_alloc | apply pw_below_drewN | apply below_drew1) | exact HB.out)) hb); clear HB; have HO550 := n0_; have HB := n1_; clear n0_ n1_; (try clear hb); (try clear hb2); (try clear hk); (try clear hi); (try clear ho0)))
 go_ret
 exact ⟨_, by first | rfl | (simp [errW_none, errW_some] <;> rfl) | (simp [*, errW_none, errW_some] <;> rfl) | (simp [wrap64]; done), by (with_reducible repeat (first | apply Kd.R_alloc | apply Kd.R_drewN | apply Kd.R_drew)); exact HO550.out, by repeat (first | (with_reducible first | exact HB.out | apply below_alloc | apply pw_below_drewN | apply below_drew1) | exact HB.out)⟩

end Go.Proofs.Ytembbdhhpblapaa.Q

namespace Go.Proofs.Ytembbdhhpblapaa.Q
open Go.RowKit Go.Proofs.YtembbdhhpblapaaW.PrintWords Go.Proofs.YtembbdhhpblapaaW.PrintLast Go.Proofs.YtembbdhhpblapaaW.PrintMore
attribute [local go_sem] max2_int min2_int max_two min_two max_three min_three max_four min_four
set_option linter.unusedVariables false
set_option linter.unusedSimpArgs false

/-! ### spec_DrawRatioOf: function 49 -/
def spec_DrawRatioOf.f (k : Nat) (l0 : List Int) : Option (Int × Int × Int × Int × Int × Bool × Int) := (spec_l1Cur_sales.f k l0 0 0).bind fun bt559 => (if (bt559.1.length : Int) > 0 then (if 0 < (bt559.1.length : Int) then (some ((rd_T40 bt559.1 0).f0, (rd_T40 bt559.1 0).f1.f0, (rd_T40 bt559.1 0).f1.f1, (rd_T40 bt559.1 0).f1.f2, (rd_T40 bt559.1 0).f1.f3, (rd_T40 bt559.1 0).f1.f4, (rd_T40 bt559.1 0).f2)) else (none)) else ((spec_l1Cur_appraisal.f l0 bt559.2.1 bt559.2.2).bind fun bt565 => (some (2000, bt565.1, bt565.2.1, bt565.2.2.1, bt565.2.2.2.1, bt565.2.2.2.2.1, 5))))
set_option maxHeartbeats 8000000 in
set_option maxRecDepth 100000 in
theorem spec_DrawRatioOf.calls (k : Nat) (A0 : Option Addr) (c0 : Nat) (l0 : List Int) (r1 : Int) (r2 : Int) (r3 : Int) (r4 : Int) (r5 : Int) (r6 : Bool) (r7 : Int) (w : World) (hr0 : Kd.C (Kd.int .u8) w A0 l0.length l0) (hc0 : l0.length ≤ c0) (h : spec_DrawRatioOf.f k l0 = some (r1, r2, r3, r4, r5, r6, r7)) :
  Calls Try.prog 49 #[.slice A0 l0.length c0] w fun e w' => e = .returned (.agg #[.int .i64 r1, .int .i64 r2, .int .i64 r3, .int .i64 r4, .int .i64 r5, .bool r6, .int .i64 r7]) ∧ Below w.heap.size w w' := by
 have hu40 := Try.underlying40
 have hu88 := Try.underlying88
 have HR0 := Aside0.mk hr0
 have HC0 := Aside0.mk hc0
 clear hr0 hc0
 have HB := Aside0.mk (Below.refl w.heap.size w)
 have H : ((spec_l1Cur_sales.f k l0 0 0).bind fun bt559 => (if (bt559.1.length : Int) > 0 then (if 0 < (bt559.1.length : Int) then (some ((rd_T40 bt559.1 0).f0, (rd_T40 bt559.1 0).f1.f0, (rd_T40 bt559.1 0).f1.f1, (rd_T40 bt559.1 0).f1.f2, (rd_T40 bt559.1 0).f1.f3, (rd_T40 bt559.1 0).f1.f4, (rd_T40 bt559.1 0).f2)) else (none)) else ((spec_l1Cur_appraisal.f l0 bt559.2.1 bt559.2.2).bind fun bt565 => (some (2000, bt565.1, bt565.2.1, bt565.2.2.1, bt565.2.2.2.1, bt565.2.2.2.2.1, 5))))) = some (r1, r2, r3, r4, r5, r6, r7) := h
 clear h
 replace H := Option.bind_eq_some_iff.mp H
 obtain ⟨⟨t559, t562, t563⟩, A20, H⟩ := H
 have A2 := Aside0.mk A20
 clear A20
 by_cases c3 : (t559.length : Int) > 0
 ·rw [if_pos c3] at H
  have c3b0 : decide (0 < (t559.length : Int)) = true := decide_eq_true c3
  have c3b1 : decide (0 < t559.length) = true := decide_eq_true (by omega)
  clear c3
  by_cases c4 : 0 < (t559.length : Int)
  ·rw [if_pos c4] at H
   have c4b0 : decide (0 < (t559.length : Int)) = true := decide_eq_true c4
   have c4b1 : decide (0 < t559.length) = true := decide_eq_true (by omega)
   clear c4
   simp only [Option.some.injEq, Prod.mk.injEq] at H
   obtain ⟨rfl, rfl, rfl, rfl, rfl, rfl, rfl⟩ := H
   go_enter Try.func49, Try.ntmps49
   go_wp2_with (first | ((with_reducible refine gate_dst (N := 2) rfl ?_); refine box_event ?hg (N := 2) ?hd (cs := #[.int .i64 0, .int .i64 0, .int .i64 0, .int .i64 0, .int .i64 0, .bool false, .int .i64 0]) (t := 40) ?hr ?_; (case hd => rfl); (case hg => rfl); (case hr => first | (go_simp; done) | (go_simp; rfl)); intro gb557 hg w5 hbox hb; have n0_ := Aside0.mk (below_step (by repeat (first | (with_reducible first | exact HB.out | apply below_alloc | apply pw_below_drewN | apply below_drew1) | exact HB.out)) hb); have n1_ := Aside0.mk (hbox); have n2_ := Aside0.mk ((by rw [hg]; exact (below_size (by repeat (first | (with_reducible first | exact HB.out | apply below_alloc | apply pw_below_drewN | apply below_drew1) | exact HB.out))) : w.heap.size ≤ gb557)); have n3_ := Aside0.mk ((by rw [hg]; exact (below_size (by repeat (first | (with_reducible first | exact HB.out | apply below_alloc | apply pw_below_drewN | apply below_drew1) | exact HB.out))) : w.heap.size ≤ gb557)); clear HB; have HB := n0_; have BK557 := n1_; have GW557 := n2_; have GE557 := n3_; clear n0_ n1_ n2_ n3_; clear hb hbox hg) | ((with_reducible refine gate_dst (N := 7) rfl ?_); refine box_event ?hg (N := 7) ?hd (cs := #[.slice A0 l0.length c0, .int .i64 0, .int .u64 0]) (t := 88) ?hr ?_; (case hd => rfl); (case hg => rfl); (case hr => first | (go_simp; done) | (go_simp; rfl)); intro gb558 hg w6 hbox hb; have n0_ := Aside0.mk (blk_below (g := gb557) (o := .cells #[.int .i64 0, .int .i64 0, .int .i64 0, .int .i64 0, .int .i64 0, .bool false, .int .i64 0] 40 (0, 0)) (by (with_reducible repeat (first | refine blk_drewN ?_ _ | refine blk_drew ?_ | refine blk_alloc ?_ _)); exact BK557.out) hb); have n1_ := Aside0.mk (below_step (by repeat (first | (with_reducible first | exact HB.out | apply below_alloc | apply pw_below_drewN | apply below_drew1 | refine below_set ?_ GE557.out) | exact HB.out)) hb); have n2_ := Aside0.mk (hbox); have n3_ := Aside0.mk ((by rw [hg]; exact (below_size (by repeat (first | (with_reducible first | exact HB.out | apply below_alloc | apply pw_below_drewN | apply below_drew1 | refine below_set ?_ GE557.out) | exact HB.out))) : w.heap.size ≤ gb558)); have n4_ := Aside0.mk ((by rw [hg]; exact (below_size (by repeat (first | (with_reducible first | exact HB.out | apply below_alloc | apply pw_below_drewN | apply below_drew1 | refine below_set ?_ GE557.out) | exact HB.out))) : w.heap.size ≤ gb558)); have n5_ := Aside0.mk ((by rw [hg]; exact Nat.ne_of_lt (blk_lt (g := gb557) (o := .cells #[.int .i64 0, .int .i64 0, .int .i64 0, .int .i64 0, .int .i64 0, .bool false, .int .i64 0] 40 (0, 0)) (by (with_reducible repeat (first | refine blk_drewN ?_ _ | refine blk_drew ?_ | refine blk_alloc ?_ _)); exact BK557.out)) : gb557 ≠ gb558)); have n6_ := Aside0.mk ((by rw [hg]; exact Nat.ne_of_gt (blk_lt (g := gb557) (o := .cells #[.int .i64 0, .int .i64 0, .int .i64 0, .int .i64 0, .int .i64 0, .bool false, .int .i64 0] 40 (0, 0)) (by (with_reducible repeat (first | refine blk_drewN ?_ _ | refine blk_drew ?_ | refine blk_alloc ?_ _)); exact BK557.out)) : gb558 ≠ gb557)); clear BK557; clear HB; have BK557 := n0_; have HB := n1_; have BK558 := n2_; have GW558 := n3_; have GE558 := n4_; have NB557_558 := n5_; have NB558_557 := n6_; clear n0_ n1_ n2_ n3_ n4_ n5_ n6_; clear hb hbox hg) | ((with_reducible refine gate_callee (f := 81) rfl ?_); refine goesL_ (some 9) rfl rfl Try.func81 (by kernel_rfl) rfl #[.pointer (some ⟨gb558, 0, none⟩)] rfl (by (try simp only [List.map_toArray, List.map_cons, List.map_nil]); first | done | rfl | (simp only [List.length_drop, List.length_take]; rfl)) ?_; (with_reducible refine (spec_l1Cur_sales.calls k gb558 l0 0 0 t559 t562 t563 w _ ?side1 ?side2 A2.out).mono ?_); (case side1 => exact ⟨_, _, (by (with_reducible repeat (first | refine blk_drewN ?_ _ | refine blk_drew ?_ | refine blk_alloc ?_ _)); exact BK558.out), GE558.out, HR0.out⟩); (case side2 => repeat (first | (with_reducible first | exact HB.out | apply below_alloc | apply pw_below_drewN | apply below_drew1 | refine below_set ?_ (IsS88.ge HI558.out) | refine below_set ?_ GE557.out) | exact HB.out)); rintro e w7 ⟨v560, rfl, ho0, hi, hb, hk⟩; refine ⟨_, rfl, ?_⟩; have n0_ := Aside0.mk (KeepBut.blk hk (g' := gb557) (o := .cells #[.int .i64 0, .int .i64 0, .int .i64 0, .int .i64 0, .int .i64 0, .bool false, .int .i64 0] 40 (0, 0)) (by (with_reducible repeat (first | refine blk_drewN ?_ _ | refine blk_drew ?_ | refine blk_alloc ?_ _)); exact BK557.out) NB557_558.out (by simp)); have n1_ := Aside0.mk (Kd.R_lower (Kd.R_newB ho0 (g := gb557) (o := .cells #[.int .i64 0, .int .i64 0, .int .i64 0, .int .i64 0, .int .i64 0, .bool false, .int .i64 0] 40 (0, 0)) (by (with_reducible repeat (first | refine blk_drewN ?_ _ | refine blk_drew ?_ | refine blk_alloc ?_ _)); exact BK557.out)) (below_size (by repeat (first | (with_reducible first | exact HB.out | apply below_alloc | apply pw_below_drewN | apply below_drew1 | refine below_set ?_ (IsS88.ge HI558.out) | refine below_set ?_ GE557.out) | exact HB.out)))); have n2_ := Aside0.mk (hb); have n3_ := Aside0.mk (hi); clear BK557; clear HB; clear BK558; have BK557 := n0_; have HO561 := n1_; have HB := n2_; have HI558 := n3_; clear n0_ n1_ n2_ n3_; (try clear hb); (try clear hb2); (try clear hk); (try clear hi); (try clear ho0); obtain ⟨Ao8, co8, eo8⟩ := Kd.R_slice HO561.out; subst eo8; have p564 : 0 ≤ (0 : Int) := (by omega); have q564 : 0 < (t559.length : Int) := of_decide_eq_true (by first | (with_reducible assumption) | assumption); obtain ⟨ad564, e564, hx564_0, hx564_1, hx564_2, hx564_3, hx564_4, hx564_5, hx564_6⟩ := at_T40 (Kd.R_reads' HO561.out).2.2 0 p564 q564; cases e564; have qi564 : (0 < t559.length) = True := eq_true (by omega); (try rw [show ((0 : Int)).toNat = 0 from rfl] at hx564_0); (try rw [show 0 * 7 = 0 from rfl] at hx564_0); (try rw [Addr.add_zero'] at hx564_0); (try rw [show ((0 : Int)).toNat = 0 from rfl] at hx564_1); (try rw [show 0 * 7 = 0 from rfl] at hx564_1); (try rw [Addr.add_zero'] at hx564_1); (try rw [show ((0 : Int)).toNat = 0 from rfl] at hx564_2); (try rw [show 0 * 7 = 0 from rfl] at hx564_2); (try rw [Addr.add_zero'] at hx564_2); (try rw [show ((0 : Int)).toNat = 0 from rfl] at hx564_3); (try rw [show 0 * 7 = 0 from rfl] at hx564_3); (try rw [Addr.add_zero'] at hx564_3); (try rw [show ((0 : Int)).toNat = 0 from rfl] at hx564_4); (try rw [show 0 * 7 = 0 from rfl] at hx564_4); (try rw [Addr.add_zero'] at hx564_4); (try rw [show ((0 : Int)).toNat = 0 from rfl] at hx564_5); (try rw [show 0 * 7 = 0 from rfl] at hx564_5); (try rw [Addr.add_zero'] at hx564_5); (try rw [show ((0 : Int)).toNat = 0 from rfl] at hx564_6); (try rw [show 0 * 7 = 0 from rfl] at hx564_6); (try rw [Addr.add_zero'] at hx564_6); replace p564 := eq_true p564; replace q564 := eq_true q564; have hnb9 := NB557_558.out; have hnc9 := NB558_557.out; have hcz10_0 : w7.cell? ⟨gb557, 0, none⟩ = some (.int .i64 0) := (blk_cell BK557.out 0).trans rfl; have hcz10_1 : w7.cell? ⟨gb557, 1, none⟩ = some (.int .i64 0) := (blk_cell BK557.out 1).trans rfl; have hcz10_2 : w7.cell? ⟨gb557, 2, none⟩ = some (.int .i64 0) := (blk_cell BK557.out 2).trans rfl; have hcz10_3 : w7.cell? ⟨gb557, 3, none⟩ = some (.int .i64 0) := (blk_cell BK557.out 3).trans rfl; have hcz10_4 : w7.cell? ⟨gb557, 4, none⟩ = some (.int .i64 0) := (blk_cell BK557.out 4).trans rfl; have hcz10_5 : w7.cell? ⟨gb557, 5, none⟩ = some (.bool false) := (blk_cell BK557.out 5).trans rfl; have hcz10_6 : w7.cell? ⟨gb557, 6, none⟩ = some (.int .i64 0) := (blk_cell BK557.out 6).trans rfl; have hfz10_0 := blk_frozen BK557.out 0; have hfz10_1 := blk_frozen BK557.out 1; have hfz10_2 := blk_frozen BK557.out 2; have hfz10_3 := blk_frozen BK557.out 3; have hfz10_4 := blk_frozen BK557.out 4; have hfz10_5 := blk_frozen BK557.out 5; have hfz10_6 := blk_frozen BK557.out 6))
   refine bodyPost_ret (results_cell_row rfl _ _ gb557 40 #[.int .i64 ((rd_T40 t559 0).f0), .int .i64 ((rd_T40 t559 0).f1.f0), .int .i64 ((rd_T40 t559 0).f1.f1), .int .i64 ((rd_T40 t559 0).f1.f2), .int .i64 ((rd_T40 t559 0).f1.f3), .bool ((rd_T40 t559 0).f1.f4), .int .i64 ((rd_T40 t559 0).f2)] (0, 0) _ rfl (by (with_reducible repeat (first | refine blk_drewN ?_ _ | refine blk_drew ?_ | refine blk_alloc ?_ _)); refine blk_put (cs := #[.int .i64 ((rd_T40 t559 0).f0), .int .i64 ((rd_T40 t559 0).f1.f0), .int .i64 ((rd_T40 t559 0).f1.f1), .int .i64 ((rd_T40 t559 0).f1.f2), .int .i64 ((rd_T40 t559 0).f1.f3), .bool ((rd_T40 t559 0).f1.f4), .int .i64 0]) ?_ 6 _ rfl; (with_reducible repeat (first | refine blk_drewN ?_ _ | refine blk_drew ?_ | refine blk_alloc ?_ _)); refine blk_put (cs := #[.int .i64 ((rd_T40 t559 0).f0), .int .i64 ((rd_T40 t559 0).f1.f0), .int .i64 ((rd_T40 t559 0).f1.f1), .int .i64 ((rd_T40 t559 0).f1.f2), .int .i64 ((rd_T40 t559 0).f1.f3), .bool false, .int .i64 0]) ?_ 5 _ rfl; (with_reducible repeat (first | refine blk_drewN ?_ _ | refine blk_drew ?_ | refine blk_alloc ?_ _)); refine blk_put (cs := #[.int .i64 ((rd_T40 t559 0).f0), .int .i64 ((rd_T40 t559 0).f1.f0), .int .i64 ((rd_T40 t559 0).f1.f1), .int .i64 ((rd_T40 t559 0).f1.f2), .int .i64 0, .bool false, .int .i64 0]) ?_ 4 _ rfl; (with_reducible repeat (first | refine blk_drewN ?_ _ | refine blk_drew ?_ | refine blk_alloc ?_ _)); refine blk_put (cs := #[.int .i64 ((rd_T40 t559 0).f0), .int .i64 ((rd_T40 t559 0).f1.f0), .int .i64 ((rd_T40 t559 0).f1.f1), .int .i64 0, .int .i64 0, .bool false, .int .i64 0]) ?_ 3 _ rfl; (with_reducible repeat (first | refine blk_drewN ?_ _ | refine blk_drew ?_ | refine blk_alloc ?_ _)); refine blk_put (cs := #[.int .i64 ((rd_T40 t559 0).f0), .int .i64 ((rd_T40 t559 0).f1.f0), .int .i64 0, .int .i64 0, .int .i64 0, .bool false, .int .i64 0]) ?_ 2 _ rfl; (with_reducible repeat (first | refine blk_drewN ?_ _ | refine blk_drew ?_ | refine blk_alloc ?_ _)); refine blk_put (cs := #[.int .i64 ((rd_T40 t559 0).f0), .int .i64 0, .int .i64 0, .int .i64 0, .int .i64 0, .bool false, .int .i64 0]) ?_ 1 _ rfl; (with_reducible repeat (first | refine blk_drewN ?_ _ | refine blk_drew ?_ | refine blk_alloc ?_ _)); refine blk_put (cs := #[.int .i64 0, .int .i64 0, .int .i64 0, .int .i64 0, .int .i64 0, .bool false, .int .i64 0]) ?_ 0 _ rfl; (with_reducible repeat (first | refine blk_drewN ?_ _ | refine blk_drew ?_ | refine blk_alloc ?_ _)); exact BK557.out) Try.underlying40 rfl (by kernel_rfl)) rfl ?_
   exact ⟨by first | rfl | (simp [errW_none, errW_some] <;> rfl) | (simp [*, errW_none, errW_some] <;> rfl) | (simp [wrap64]; done), by repeat (first | (with_reducible first | exact HB.out | apply below_alloc | apply pw_below_drewN | apply below_drew1 | refine below_set ?_ (IsS88.ge HI558.out) | refine below_set ?_ GE557.out) | exact HB.out)⟩
  ·rw [if_neg c4] at H
   exact absurd H (by simp)
 ·rw [if_neg c3] at H
  have c3b0 : decide (0 < (t559.length : Int)) = false := decide_eq_false c3
  have c3b1 : decide (0 < t559.length) = false := decide_eq_false (by omega)
  clear c3
  replace H := Option.bind_eq_some_iff.mp H
  obtain ⟨⟨t565, t566, t567, t568, t569, t570, t571⟩, A110, H⟩ := H
  have A11 := Aside0.mk A110
  clear A110
  simp only [Option.some.injEq, Prod.mk.injEq] at H
  obtain ⟨rfl, rfl, rfl, rfl, rfl, rfl, rfl⟩ := H
  go_enter Try.func49, Try.ntmps49
  go_wp2_with (first | ((with_reducible refine gate_dst (N := 2) rfl ?_); refine box_event ?hg (N := 2) ?hd (cs := #[.int .i64 0, .int .i64 0, .int .i64 0, .int .i64 0, .int .i64 0, .bool false, .int .i64 0]) (t := 40) ?hr ?_; (case hd => rfl); (case hg => rfl); (case hr => first | (go_simp; done) | (go_simp; rfl)); intro gb557 hg w12 hbox hb; have n0_ := Aside0.mk (below_step (by repeat (first | (with_reducible first | exact HB.out | apply below_alloc | apply pw_below_drewN | apply below_drew1) | exact HB.out)) hb); have n1_ := Aside0.mk (hbox); have n2_ := Aside0.mk ((by rw [hg]; exact (below_size (by repeat (first | (with_reducible first | exact HB.out | apply below_alloc | apply pw_below_drewN | apply below_drew1) | exact HB.out))) : w.heap.size ≤ gb557)); have n3_ := Aside0.mk ((by rw [hg]; exact (below_size (by repeat (first | (with_reducible first | exact HB.out | apply below_alloc | apply pw_below_drewN | apply below_drew1) | exact HB.out))) : w.heap.size ≤ gb557)); clear HB; have HB := n0_; have BK557 := n1_; have GW557 := n2_; have GE557 := n3_; clear n0_ n1_ n2_ n3_; clear hb hbox hg) | ((with_reducible refine gate_dst (N := 7) rfl ?_); refine box_event ?hg (N := 7) ?hd (cs := #[.slice A0 l0.length c0, .int .i64 0, .int .u64 0]) (t := 88) ?hr ?_; (case hd => rfl); (case hg => rfl); (case hr => first | (go_simp; done) | (go_simp; rfl)); intro gb558 hg w13 hbox hb; have n0_ := Aside0.mk (blk_below (g := gb557) (o := .cells #[.int .i64 0, .int .i64 0, .int .i64 0, .int .i64 0, .int .i64 0, .bool false, .int .i64 0] 40 (0, 0)) (by (with_reducible repeat (first | refine blk_drewN ?_ _ | refine blk_drew ?_ | refine blk_alloc ?_ _)); exact BK557.out) hb); have n1_ := Aside0.mk (below_step (by repeat (first | (with_reducible first | exact HB.out | apply below_alloc | apply pw_below_drewN | apply below_drew1 | refine below_set ?_ GE557.out) | exact HB.out)) hb); have n2_ := Aside0.mk (hbox); have n3_ := Aside0.mk ((by rw [hg]; exact (below_size (by repeat (first | (with_reducible first | exact HB.out | apply below_alloc | apply pw_below_drewN | apply below_drew1 | refine below_set ?_ GE557.out) | exact HB.out))) : w.heap.size ≤ gb558)); have n4_ := Aside0.mk ((by rw [hg]; exact (below_size (by repeat (first | (with_reducible first | exact HB.out | apply below_alloc | apply pw_below_drewN | apply below_drew1 | refine below_set ?_ GE557.out) | exact HB.out))) : w.heap.size ≤ gb558)); have n5_ := Aside0.mk ((by rw [hg]; exact Nat.ne_of_lt (blk_lt (g := gb557) (o := .cells #[.int .i64 0, .int .i64 0, .int .i64 0, .int .i64 0, .int .i64 0, .bool false, .int .i64 0] 40 (0, 0)) (by (with_reducible repeat (first | refine blk_drewN ?_ _ | refine blk_drew ?_ | refine blk_alloc ?_ _)); exact BK557.out)) : gb557 ≠ gb558)); have n6_ := Aside0.mk ((by rw [hg]; exact Nat.ne_of_gt (blk_lt (g := gb557) (o := .cells #[.int .i64 0, .int .i64 0, .int .i64 0, .int .i64 0, .int .i64 0, .bool false, .int .i64 0] 40 (0, 0)) (by (with_reducible repeat (first | refine blk_drewN ?_ _ | refine blk_drew ?_ | refine blk_alloc ?_ _)); exact BK557.out)) : gb558 ≠ gb557)); clear BK557; clear HB; have BK557 := n0_; have HB := n1_; have BK558 := n2_; have GW558 := n3_; have GE558 := n4_; have NB557_558 := n5_; have NB558_557 := n6_; clear n0_ n1_ n2_ n3_ n4_ n5_ n6_; clear hb hbox hg) | ((with_reducible refine gate_callee (f := 81) rfl ?_); refine goesL_ (some 9) rfl rfl Try.func81 (by kernel_rfl) rfl #[.pointer (some ⟨gb558, 0, none⟩)] rfl (by (try simp only [List.map_toArray, List.map_cons, List.map_nil]); first | done | rfl | (simp only [List.length_drop, List.length_take]; rfl)) ?_; (with_reducible refine (spec_l1Cur_sales.calls k gb558 l0 0 0 t559 t562 t563 w _ ?side1 ?side2 A2.out).mono ?_); (case side1 => exact ⟨_, _, (by (with_reducible repeat (first | refine blk_drewN ?_ _ | refine blk_drew ?_ | refine blk_alloc ?_ _)); exact BK558.out), GE558.out, HR0.out⟩); (case side2 => repeat (first | (with_reducible first | exact HB.out | apply below_alloc | apply pw_below_drewN | apply below_drew1 | refine below_set ?_ (IsS88.ge HI558.out) | refine below_set ?_ GE557.out) | exact HB.out)); rintro e w14 ⟨v560, rfl, ho0, hi, hb, hk⟩; refine ⟨_, rfl, ?_⟩; have n0_ := Aside0.mk (KeepBut.blk hk (g' := gb557) (o := .cells #[.int .i64 0, .int .i64 0, .int .i64 0, .int .i64 0, .int .i64 0, .bool false, .int .i64 0] 40 (0, 0)) (by (with_reducible repeat (first | refine blk_drewN ?_ _ | refine blk_drew ?_ | refine blk_alloc ?_ _)); exact BK557.out) NB557_558.out (by simp)); have n1_ := Aside0.mk (Kd.R_lower (Kd.R_newB ho0 (g := gb557) (o := .cells #[.int .i64 0, .int .i64 0, .int .i64 0, .int .i64 0, .int .i64 0, .bool false, .int .i64 0] 40 (0, 0)) (by (with_reducible repeat (first | refine blk_drewN ?_ _ | refine blk_drew ?_ | refine blk_alloc ?_ _)); exact BK557.out)) (below_size (by repeat (first | (with_reducible first | exact HB.out | apply below_alloc | apply pw_below_drewN | apply below_drew1 | refine below_set ?_ (IsS88.ge HI558.out) | refine below_set ?_ GE557.out) | exact HB.out)))); have n2_ := Aside0.mk (hb); have n3_ := Aside0.mk (hi); clear BK557; clear HB; clear BK558; have BK557 := n0_; have HO561 := n1_; have HB := n2_; have HI558 := n3_; clear n0_ n1_ n2_ n3_; (try clear hb); (try clear hb2); (try clear hk); (try clear hi); (try clear ho0); obtain ⟨Ao15, co15, eo15⟩ := Kd.R_slice HO561.out; subst eo15) | ((with_reducible refine gate_callee (f := 70) rfl ?_); refine goesL_ (some 17) rfl rfl Try.func70 (by kernel_rfl) rfl #[.pointer (some ⟨gb558, 0, none⟩)] rfl (by (try simp only [List.map_toArray, List.map_cons, List.map_nil]); first | done | rfl | (simp only [List.length_drop, List.length_take]; rfl)) ?_; (with_reducible refine (spec_l1Cur_appraisal.calls gb558 l0 t562 t563 t565 t566 t567 t568 t569 t570 t571 w _ ?side1 ?side2 A11.out).mono ?_); (case side1 => repeat (first | (with_reducible first | exact HI558.out | apply IsS88.alloc | apply IsS88.drewN | apply IsS88.drew | apply IsS88.set_1 | apply IsS88.set_2 | refine IsS88.far ?_ NB558_557.out _) | exact HI558.out)); (case side2 => repeat (first | (with_reducible first | exact HB.out | apply below_alloc | apply pw_below_drewN | apply below_drew1 | refine below_set ?_ (IsS88.ge HI558.out) | refine below_set ?_ GE557.out) | exact HB.out)); rintro e w16 ⟨rfl, hi, hb, hk⟩; refine ⟨_, rfl, ?_⟩; have n0_ := Aside0.mk (KeepBut.blk hk (g' := gb557) (o := .cells #[.int .i64 0, .int .i64 0, .int .i64 0, .int .i64 0, .int .i64 0, .bool false, .int .i64 0] 40 (0, 0)) (by (with_reducible repeat (first | refine blk_drewN ?_ _ | refine blk_drew ?_ | refine blk_alloc ?_ _)); exact BK557.out) NB557_558.out (by simp)); have n1_ := Aside0.mk (Kd.R_mono (Kd.R_keep (IsS88.apart (show IsS88 w _ gb558 l0 t562 t563 from by repeat (first | (with_reducible first | exact HI558.out | apply IsS88.alloc | apply IsS88.drewN | apply IsS88.drew | apply IsS88.set_1 | apply IsS88.set_2 | refine IsS88.far ?_ NB558_557.out _) | exact HI558.out)) (by (with_reducible repeat (first | apply Kd.R_alloc | apply Kd.R_drewN | apply Kd.R_drew)); exact HO561.out) (by decide)) hk (fun _ h => h.2)) (fun _ h => h.1)); have n2_ := Aside0.mk (hb); have n3_ := Aside0.mk (hi); clear BK557; clear HO561; clear HB; clear HI558; have BK557 := n0_; have HO561 := n1_; have HB := n2_; have HI558 := n3_; clear n0_ n1_ n2_ n3_; (try clear hb); (try clear hb2); (try clear hk); (try clear hi); have hnb17 := NB557_558.out; have hnc17 := NB558_557.out; have hcz18_0 : w16.cell? ⟨gb557, 0, none⟩ = some (.int .i64 0) := (blk_cell BK557.out 0).trans rfl; have hcz18_1 : w16.cell? ⟨gb557, 1, none⟩ = some (.int .i64 0) := (blk_cell BK557.out 1).trans rfl; have hcz18_2 : w16.cell? ⟨gb557, 2, none⟩ = some (.int .i64 0) := (blk_cell BK557.out 2).trans rfl; have hcz18_3 : w16.cell? ⟨gb557, 3, none⟩ = some (.int .i64 0) := (blk_cell BK557.out 3).trans rfl; have hcz18_4 : w16.cell? ⟨gb557, 4, none⟩ = some (.int .i64 0) := (blk_cell BK557.out 4).trans rfl; have hcz18_5 : w16.cell? ⟨gb557, 5, none⟩ = some (.bool false) := (blk_cell BK557.out 5).trans rfl; have hcz18_6 : w16.cell? ⟨gb557, 6, none⟩ = some (.int .i64 0) := (blk_cell BK557.out 6).trans rfl; have hfz18_0 := blk_frozen BK557.out 0; have hfz18_1 := blk_frozen BK557.out 1; have hfz18_2 := blk_frozen BK557.out 2; have hfz18_3 := blk_frozen BK557.out 3; have hfz18_4 := blk_frozen BK557.out 4; have hfz18_5 := blk_frozen BK557.out 5; have hfz18_6 := blk_frozen BK557.out 6))
  refine bodyPost_ret (results_cell_row rfl _ _ gb557 40 #[.int .i64 2000, .int .i64 t565, .int .i64 t566, .int .i64 t567, .int .i64 t568, .bool t569, .int .i64 5] (0, 0) _ rfl (by (with_reducible repeat (first | refine blk_drewN ?_ _ | refine blk_drew ?_ | refine blk_alloc ?_ _)); refine blk_put (cs := #[.int .i64 2000, .int .i64 t565, .int .i64 t566, .int .i64 t567, .int .i64 t568, .bool t569, .int .i64 0]) ?_ 6 _ rfl; (with_reducible repeat (first | refine blk_drewN ?_ _ | refine blk_drew ?_ | refine blk_alloc ?_ _)); refine blk_put (cs := #[.int .i64 2000, .int .i64 t565, .int .i64 t566, .int .i64 t567, .int .i64 t568, .bool false, .int .i64 0]) ?_ 5 _ rfl; (with_reducible repeat (first | refine blk_drewN ?_ _ | refine blk_drew ?_ | refine blk_alloc ?_ _)); refine blk_put (cs := #[.int .i64 2000, .int .i64 t565, .int .i64 t566, .int .i64 t567, .int .i64 0, .bool false, .int .i64 0]) ?_ 4 _ rfl; (with_reducible repeat (first | refine blk_drewN ?_ _ | refine blk_drew ?_ | refine blk_alloc ?_ _)); refine blk_put (cs := #[.int .i64 2000, .int .i64 t565, .int .i64 t566, .int .i64 0, .int .i64 0, .bool false, .int .i64 0]) ?_ 3 _ rfl; (with_reducible repeat (first | refine blk_drewN ?_ _ | refine blk_drew ?_ | refine blk_alloc ?_ _)); refine blk_put (cs := #[.int .i64 2000, .int .i64 t565, .int .i64 0, .int .i64 0, .int .i64 0, .bool false, .int .i64 0]) ?_ 2 _ rfl; (with_reducible repeat (first | refine blk_drewN ?_ _ | refine blk_drew ?_ | refine blk_alloc ?_ _)); refine blk_put (cs := #[.int .i64 2000, .int .i64 0, .int .i64 0, .int .i64 0, .int .i64 0, .bool false, .int .i64 0]) ?_ 1 _ rfl; (with_reducible repeat (first | refine blk_drewN ?_ _ | refine blk_drew ?_ | refine blk_alloc ?_ _)); refine blk_put (cs := #[.int .i64 0, .int .i64 0, .int .i64 0, .int .i64 0, .int .i64 0, .bool false, .int .i64 0]) ?_ 0 _ rfl; (with_reducible repeat (first | refine blk_drewN ?_ _ | refine blk_drew ?_ | refine blk_alloc ?_ _)); exact BK557.out) Try.underlying40 rfl (by kernel_rfl)) rfl ?_
  exact ⟨by first | rfl | (simp [errW_none, errW_some] <;> rfl) | (simp [*, errW_none, errW_some] <;> rfl) | (simp [wrap64]; done), by repeat (first | (with_reducible first | exact HB.out | apply below_alloc | apply pw_below_drewN | apply below_drew1 | refine below_set ?_ (IsS88.ge HI558.out) | refine below_set ?_ GE557.out) | exact HB.out)⟩

end Go.Proofs.Ytembbdhhpblapaa.Q

namespace Go.Proofs.Ytembbdhhpblapaa.M
open Go Go.RowKit Go.Proofs.Ytembbdhhpblapaa.Q Go.Proofs.YtembbdhhpblapaaW.PrintWords Go.Proofs.YtembbdhhpblapaaW.PrintLast
open Go.Proofs.YtembbdhhpblapaaW.Pl (nth nth_get nth_mem range_all Ev.succ Ev.c stepI predI scanE)
open Go.Proofs.YtembbdhhpblapaaW.SL (insR isort isort_snoc isort_len isort_mem)
set_option linter.unusedSimpArgs false
set_option linter.unusedVariables false
namespace FS
theorem appr_ok {l : List Int} (hl : CodeL l) (s t : Int) (n : Nat) (hs : 0 ≤ s ∧ s ≤ (n : Int)) (hn : n ≤ 1000000) :
    ∃ a b c d e s' t', spec_l1Cur_appraisal.f l s t = some (a, b, c, d, e, s', t') ∧ (0 ≤ s' ∧ s' ≤ ((n + 14 : Nat) : Int)) := by
  unfold spec_l1Cur_appraisal.f
  obtain ⟨x1, a1, t1, e1, h1, _⟩ := among_ok hl s t [1, 240, 300, 480, 4000] n hs (by omega) (by simp)
  obtain ⟨x2, a2, t2, e2, h2, _⟩ := among_ok hl a1 t1 [100, 1600, 3000, 10000] (n + 2) h1 (by omega) (by simp)
  obtain ⟨x3, a3, t3, e3, h3, _⟩ := among_ok hl a2 t2 [0, 49, 50, 99, 100, 400] (n + 2 + 2) h2 (by omega) (by simp)
  obtain ⟨x4, a4, t4, e4, h4, _⟩ := pick_ok hl a3 t3 4 (n + 2 + 2 + 2) h3 (by omega) (by omega)
  obtain ⟨x5, a5, t5, e5, h5⟩ := one_ok hl a4 t4 5 (n + 2 + 2 + 2 + 2) h4 (by omega) (by omega)
  obtain ⟨x6, a6, t6, e6, h6, _⟩ := pick_ok hl a5 t5 70 (n + 2 + 2 + 2 + 2 + 2) h5 (by omega) (by omega)
  simp only [e1, e2, e3, e4, e5, e6, Option.bind_some]
  obtain ⟨y1, b1, u1, f1, g1, _⟩ := among_ok hl a6 t6 [0, 4001] (n + 2 + 2 + 2 + 2 + 2 + 2) h6 (by omega) (by simp)
  obtain ⟨y2, b2, u2, f2, g2, _⟩ := among_ok hl a6 t6 [99, 10001] (n + 2 + 2 + 2 + 2 + 2 + 2) h6 (by omega) (by simp)
  obtain ⟨y3, b3, u3, f3, g3, _⟩ := among_ok hl a6 t6 [(-1), 401] (n + 2 + 2 + 2 + 2 + 2 + 2) h6 (by omega) (by simp)
  obtain ⟨y4, b4, u4, f4, g4, _⟩ := among_ok hl a6 t6 [0, 5] (n + 2 + 2 + 2 + 2 + 2 + 2) h6 (by omega) (by simp)
  simp only [f1, f2, f3, f4, Option.bind_some]
  by_cases c0 : x6 = 0
  · simp only [if_pos c0]; exact ⟨_, _, _, _, _, _, _, rfl, by omega⟩
  · by_cases c1 : x6 = 1
    · simp only [if_neg c0, if_pos c1]; exact ⟨_, _, _, _, _, _, _, rfl, by omega⟩
    · by_cases c2 : x6 = 2
      · simp only [if_neg c0, if_neg c1, if_pos c2]; exact ⟨_, _, _, _, _, _, _, rfl, by omega⟩
      · by_cases c3 : x6 = 3
        · simp only [if_neg c0, if_neg c1, if_neg c2, if_pos c3]; exact ⟨_, _, _, _, _, _, _, rfl, by omega⟩
        · simp only [if_neg c0, if_neg c1, if_neg c2, if_neg c3]; exact ⟨_, _, _, _, _, _, _, rfl, by omega⟩
/-- The last sale again and again, up to ten or eleven. -/
theorem sales1 {l : List Int} (hl : CodeL l) : ∀ d (x : List S40) (s t : Int) (n : Nat), 11 - x.length ≤ d → 1 ≤ x.length → x.length ≤ 20 → (0 ≤ s ∧ s ≤ (n : Int)) → n + 3 * d ≤ 900000 →
    ∃ L s' t', Ev (fun k => spec_l1Cur_sales.l1 k x l s t) (L, s', t') ∧ L.length ≤ 20 ∧ 0 ≤ s' ∧ s' ≤ ((n + 3 * d + 3 : Nat) : Int) := by
  intro d
  induction d with
  | zero =>
    intro x s t n h1 h2 h3 hs hn
    obtain ⟨b, s1, t1, e1, g1, b0, b1, _⟩ := pick_ok hl s t 2 n hs (by omega) (by omega)
    have hb := b1 (by omega)
    refine ⟨x, s1, t1, Ev.succ ?_, h3, g1.1, by omega⟩
    simp only [spec_l1Cur_sales.l1, e1, Option.bind_some, w64 (x := 10 + b) (by omega), if_neg (show ¬ (x.length : Int) < 10 + b by omega)]
    exact Ev.now _
  | succ d ih =>
    intro x s t n h1 h2 h3 hs hn
    obtain ⟨b, s1, t1, e1, g1, b0, b1, _⟩ := pick_ok hl s t 2 n hs (by omega) (by omega)
    have hb := b1 (by omega)
    by_cases hlt : (x.length : Int) < 10 + b
    · obtain ⟨L, s', t', hE, q1, q2, q3⟩ := ih (x ++ [nth x (x.length - 1) z40]) s1 t1 (n + 2) (by simp; omega) (by simp) (by simp; omega) g1 (by omega)
      refine ⟨L, s', t', Ev.succ ?_, q1, q2, by omega⟩
      simp only [spec_l1Cur_sales.l1, e1, Option.bind_some, w64 (x := 10 + b) (by omega), if_pos hlt, predI x.length (by omega), if_pos (show (0 : Int) ≤ ((x.length - 1 : Nat) : Int) by omega), if_pos (show ((x.length - 1 : Nat) : Int) < (x.length : Int) by omega), if_pos (show x.length < 2513169434916 by omega), rd40]
      exact hE
    · refine ⟨x, s1, t1, Ev.succ ?_, h3, g1.1, by omega⟩
      simp only [spec_l1Cur_sales.l1, e1, Option.bind_some, w64 (x := 10 + b) (by omega), if_neg hlt]
      exact Ev.now _
theorem sales0 {l : List Int} (hl : CodeL l) : ∀ (m : Nat) (x : List S40) (y s t : Int) (n : Nat), x.length + m ≤ 10 → (0 ≤ s ∧ s ≤ (n : Int)) → n + 100 * m ≤ 10000 →
    ∃ L s' t', Ev (fun k => spec_l1Cur_sales.l0 k x y (m : Int) l s t) (L, s', t') ∧ L.length ≤ 20 ∧ 0 ≤ s' ∧ s' ≤ 20000 := by
  intro m
  induction m with
  | zero =>
    intro x y s t n h1 hs hn
    by_cases h0 : (x.length : Int) = 0
    · refine ⟨x, s, t, Ev.succ ?_, by omega, hs.1, by omega⟩
      simp only [spec_l1Cur_sales.l0, if_neg (show ¬ ((0 : Nat) : Int) > 0 by omega), if_pos h0]
      exact Ev.now _
    obtain ⟨b, s1, t1, e1, g1, b0, b1, _⟩ := pick_ok hl s t 40 n hs (by omega) (by omega)
    obtain ⟨v, s2, t2, e2, g2, _⟩ := among_ok hl s1 t1 [0, 100000001] (n + 2) g1 (by omega) (by simp)
    obtain ⟨v3, s3, t3, e3, g3, _⟩ := among_ok hl s1 t1 [1899, 2101] (n + 2) g1 (by omega) (by simp)
    obtain ⟨L, s', t', hE, q1, q2, q3⟩ := sales1 hl 11 x s1 t1 (n + 2) (by omega) (by omega) (by omega) g1 (by omega)
    by_cases c0 : b = 0
    · refine ⟨x.set (0 : Int).toNat (⟨(rd_T40 x 0).f0, (⟨(rd_T40 x 0).f1.f0, (rd_T40 x 0).f1.f1, (rd_T40 x 0).f1.f2, (rd_T40 x 0).f1.f3, (rd_T40 x 0).f1.f4⟩ : S25), v⟩ : S40), s2, t2, Ev.succ ?_, ?_, g2.1, by omega⟩
      · simp only [spec_l1Cur_sales.l0, if_neg (show ¬ ((0 : Nat) : Int) > 0 by omega), if_neg h0, e1, Option.bind_some, if_pos c0, if_pos (show (0 : Int) < (x.length : Int) by omega), e2]
        exact Ev.now _
      · rw [List.length_set]; omega
    by_cases c1 : b = 1
    · refine ⟨L, s', t', Ev.succ ?_, q1, q2, by omega⟩
      simp only [spec_l1Cur_sales.l0, if_neg (show ¬ ((0 : Nat) : Int) > 0 by omega), if_neg h0, e1, Option.bind_some, if_neg c0, if_pos c1]
      exact hE
    by_cases c2 : b = 2
    · refine ⟨x.set (0 : Int).toNat (⟨v3, (⟨(rd_T40 x 0).f1.f0, (rd_T40 x 0).f1.f1, (rd_T40 x 0).f1.f2, (rd_T40 x 0).f1.f3, (rd_T40 x 0).f1.f4⟩ : S25), (rd_T40 x 0).f2⟩ : S40), s3, t3, Ev.succ ?_, ?_, g3.1, by omega⟩
      · simp only [spec_l1Cur_sales.l0, if_neg (show ¬ ((0 : Nat) : Int) > 0 by omega), if_neg h0, e1, Option.bind_some, if_neg c0, if_neg c1, if_pos c2, if_pos (show (0 : Int) < (x.length : Int) by omega), e3]
        exact Ev.now _
      · rw [List.length_set]; omega
    · refine ⟨x, s1, t1, Ev.succ ?_, by omega, g1.1, by omega⟩
      simp only [spec_l1Cur_sales.l0, if_neg (show ¬ ((0 : Nat) : Int) > 0 by omega), if_neg h0, e1, Option.bind_some, if_neg c0, if_neg c1, if_neg c2]
      exact Ev.now _
  | succ m ih =>
    intro x y s t n h1 hs hn
    obtain ⟨a, b, c, d, e, s1, t1, e1, g1⟩ := appr_ok hl s t n hs (by omega)
    obtain ⟨v, s2, t2, e2, g2, _⟩ := among_ok hl s1 t1 [1, 50000, 900000, 1000000, 100000000] (n + 14) g1 (by omega) (by simp)
    obtain ⟨o, s3, t3, e3, g3⟩ := one_ok hl s2 t2 2 (n + 16) g2 (by omega) (by omega)
    have hp : wrap64 (((m + 1 : Nat) : Int) - 1) = (m : Int) := by rw [w64 (by omega)]; omega
    by_cases ho : o = true
    · obtain ⟨p, s4, t4, e4, g4, _⟩ := pick_ok hl s3 t3 2 (n + 18) g3 (by omega) (by omega)
      obtain ⟨q, s5, t5, e5, g5, _⟩ := pick_ok hl s4 t4 2 (n + 20) g4 (by omega) (by omega)
      obtain ⟨u, s6, t6, e6, g6, _⟩ := among_ok hl s5 t5 [0, 0, 1, 5] (n + 22) g5 (by omega) (by simp)
      obtain ⟨r, s7, t7, e7, g7, _⟩ := pick_ok hl s6 t6 60 (n + 24) g6 (by omega) (by omega)
      obtain ⟨L, s', t', hE, q1, q2, q3⟩ := ih (x ++ [(⟨y, (⟨wrap64 (240 + (wrap64 (60 * p))), 1600, 10, wrap64 (1 + q), false⟩ : S25), v⟩ : S40)]) (wrap64 ((wrap64 (y + u)) - (wrap64 (Int.tdiv r 59)))) s7 t7 (n + 26) (by simp; omega) g7 (by omega)
      refine ⟨L, s', t', Ev.succ ?_, q1, q2, q3⟩
      simp only [spec_l1Cur_sales.l0, if_pos (show ((m + 1 : Nat) : Int) > 0 by omega), e1, e2, e3, e4, e5, e6, e7, Option.bind_some, if_pos ho, if_pos (show x.length < 2513169434916 by omega), hp]
      exact hE
    · obtain ⟨u, s6, t6, e6, g6, _⟩ := among_ok hl s3 t3 [0, 0, 1, 5] (n + 18) g3 (by omega) (by simp)
      obtain ⟨r, s7, t7, e7, g7, _⟩ := pick_ok hl s6 t6 60 (n + 20) g6 (by omega) (by omega)
      obtain ⟨L, s', t', hE, q1, q2, q3⟩ := ih (x ++ [(⟨y, (⟨a, b, c, d, e⟩ : S25), v⟩ : S40)]) (wrap64 ((wrap64 (y + u)) - (wrap64 (Int.tdiv r 59)))) s7 t7 (n + 22) (by simp; omega) g7 (by omega)
      refine ⟨L, s', t', Ev.succ ?_, q1, q2, q3⟩
      simp only [spec_l1Cur_sales.l0, if_pos (show ((m + 1 : Nat) : Int) > 0 by omega), e1, e2, e3, e6, e7, Option.bind_some, if_neg ho, if_pos (show x.length < 2513169434916 by omega), hp]
      exact hE
theorem sales_ok {l : List Int} (hl : CodeL l) : ∃ L s' t', Ev (fun k => spec_l1Cur_sales.f k l 0 0) (L, s', t') ∧ L.length ≤ 20 ∧ 0 ≤ s' ∧ s' ≤ 20000 := by
  obtain ⟨y, s1, t1, e1, g1, _⟩ := among_ok hl 0 0 [1900, 1990, 2090] 0 (by omega) (by omega) (by simp)
  obtain ⟨m, s2, t2, e2, g2, m0, m1, _⟩ := pick_ok hl s1 t1 8 2 g1 (by omega) (by omega)
  have hm := m1 (by omega)
  obtain ⟨L, s', t', hE, q⟩ := sales0 hl m.toNat [] y s2 t2 4 (by simp; omega) g2 (by omega)
  refine ⟨L, s', t', ?_, q⟩
  unfold spec_l1Cur_sales.f
  simp only [e1, e2, Option.bind_some]
  rwa [Int.toNat_of_nonneg m0] at hE
theorem drawE {l : List Int} (hl : CodeL l) : ∃ L a b c d e, Ev (fun k => spec_DrawEstimateBy.f k l) (L, a, b, c, d, e) ∧ L.length ≤ 20 := by
  obtain ⟨L, s, t, hE, h1, h2, h3⟩ := sales_ok hl
  obtain ⟨o, s1, t1, e1, g1⟩ := one_ok hl s t 2 20000 ⟨h2, by omega⟩ (by omega) (by omega)
  by_cases ho : o = true
  · obtain ⟨p, s2, t2, e2, g2, _⟩ := pick_ok hl s1 t1 2 20002 g1 (by omega) (by omega)
    obtain ⟨q, s3, t3, e3, g3, _⟩ := pick_ok hl s2 t2 3 20004 g2 (by omega) (by omega)
    refine ⟨L, 300, wrap64 (1600 + p), 60, wrap64 (1 + q), false, ?_, h1⟩
    unfold spec_DrawEstimateBy.f
    refine Ev.bind hE ?_
    simp only [e1, e2, e3, Option.bind_some, if_pos ho]
    exact Ev.now _
  · obtain ⟨a, b, c, d, e, s2, t2, e2, g2⟩ := appr_ok hl s1 t1 20002 g1 (by omega)
    refine ⟨L, a, b, c, d, e, ?_, h1⟩
    unfold spec_DrawEstimateBy.f
    refine Ev.bind hE ?_
    simp only [e1, e2, Option.bind_some, if_neg ho]
    exact Ev.now _
theorem drawY {l : List Int} (hl : CodeL l) : ∃ L, Ev (fun k => spec_DrawYearMeans.f k l) L ∧ L.length ≤ 20 := by
  obtain ⟨L, s, t, hE, h1, _⟩ := sales_ok hl
  refine ⟨L, ?_, h1⟩
  unfold spec_DrawYearMeans.f spec_DrawAreSales.f
  exact Ev.bind (Ev.bind hE (Ev.now _)) (Ev.now _)
theorem drawR {l : List Int} (hl : CodeL l) : ∃ y a b c d e n, Ev (fun k => spec_DrawRatioOf.f k l) (y, a, b, c, d, e, n) := by
  obtain ⟨L, s, t, hE, h1, h2, h3⟩ := sales_ok hl
  by_cases hp : (L.length : Int) > 0
  · refine ⟨(rd_T40 L 0).f0, (rd_T40 L 0).f1.f0, (rd_T40 L 0).f1.f1, (rd_T40 L 0).f1.f2, (rd_T40 L 0).f1.f3, (rd_T40 L 0).f1.f4, (rd_T40 L 0).f2, ?_⟩
    unfold spec_DrawRatioOf.f
    refine Ev.bind hE ?_
    simp only [if_pos hp, if_pos (show (0 : Int) < (L.length : Int) by omega)]
    exact Ev.now _
  · obtain ⟨a, b, c, d, e, s2, t2, e2, g2⟩ := appr_ok hl s t 20000 ⟨h2, by omega⟩ (by omega)
    refine ⟨2000, a, b, c, d, e, 5, ?_⟩
    unfold spec_DrawRatioOf.f
    refine Ev.bind hE ?_
    simp only [if_neg hp, e2, Option.bind_some]
    exact Ev.now _
end FS
end Go.Proofs.Ytembbdhhpblapaa.M

namespace Go.Proofs.Ytembbdhhpblapaa.Q
open Go.RowKit Go.Proofs.YtembbdhhpblapaaW.PrintWords Go.Proofs.YtembbdhhpblapaaW.PrintLast Go.Proofs.YtembbdhhpblapaaW.PrintMore
attribute [local go_sem] max2_int min2_int max_two min_two max_three min_three max_four min_four
set_option linter.unusedVariables false
set_option linter.unusedSimpArgs false

/-! ### impl_Alike: function 18 -/
def impl_Alike.f (a0_0 : Int) (a0_1 : Int) (a0_2 : Int) (a0_3 : Int) (a0_4 : Bool) (a1_0 : Int) (a1_1 : Int) (a1_2 : Int) (a1_3 : Int) (a1_4 : Bool) : Option (Bool × Bool) := (impl_IsAppraisal.f a0_0 a0_1 a0_2 a0_3 a0_4).bind fun t349 => (if t349 = true then ((impl_IsAppraisal.f a1_0 a1_1 a1_2 a1_3 a1_4).bind fun t350 => (if t350 = true then ((impl_Appraisal_isAlike.f a0_0 a0_1 a0_2 a0_3 a0_4 a1_0 a1_1 a1_2 a1_3 a1_4).bind fun t351 => (some (t351, true))) else (some (false, false)))) else (some (false, false)))
set_option maxHeartbeats 8000000 in
set_option maxRecDepth 100000 in
theorem impl_Alike.calls (a0_0 : Int) (a0_1 : Int) (a0_2 : Int) (a0_3 : Int) (a0_4 : Bool) (a1_0 : Int) (a1_1 : Int) (a1_2 : Int) (a1_3 : Int) (a1_4 : Bool) (r1 : Bool) (r2 : Bool) (w : World) (h : impl_Alike.f a0_0 a0_1 a0_2 a0_3 a0_4 a1_0 a1_1 a1_2 a1_3 a1_4 = some (r1, r2)) :
  Calls Try.prog 18 #[.agg #[.int .i64 a0_0, .int .i64 a0_1, .int .i64 a0_2, .int .i64 a0_3, .bool a0_4], .agg #[.int .i64 a1_0, .int .i64 a1_1, .int .i64 a1_2, .int .i64 a1_3, .bool a1_4]] w fun e w' => e = .returned (.tuple #[.bool r1, .bool r2]) ∧ Below w.heap.size w w' := by
 have hu25 := Try.underlying25
 have HB := Aside0.mk (Below.refl w.heap.size w)
 have H : ((impl_IsAppraisal.f a0_0 a0_1 a0_2 a0_3 a0_4).bind fun t349 => (if t349 = true then ((impl_IsAppraisal.f a1_0 a1_1 a1_2 a1_3 a1_4).bind fun t350 => (if t350 = true then ((impl_Appraisal_isAlike.f a0_0 a0_1 a0_2 a0_3 a0_4 a1_0 a1_1 a1_2 a1_3 a1_4).bind fun t351 => (some (t351, true))) else (some (false, false)))) else (some (false, false)))) = some (r1, r2) := h
 clear h
 replace H := Option.bind_eq_some_iff.mp H
 obtain ⟨t349, A30, H⟩ := H
 have A3 := Aside0.mk A30
 clear A30
 by_cases c4 : t349 = true
 ·subst c4
  rw [if_pos rfl] at H
  replace H := Option.bind_eq_some_iff.mp H
  obtain ⟨t350, A50, H⟩ := H
  have A5 := Aside0.mk A50
  clear A50
  by_cases c6 : t350 = true
  ·subst c6
   rw [if_pos rfl] at H
   replace H := Option.bind_eq_some_iff.mp H
   obtain ⟨t351, A70, H⟩ := H
   have A7 := Aside0.mk A70
   clear A70
   simp only [Option.some.injEq, Prod.mk.injEq] at H
   obtain ⟨rfl, rfl⟩ := H
   go_enter Try.func18, Try.ntmps18
   go_wp2_with (first | ((with_reducible refine gate_dst (N := 2) rfl ?_); refine box_event ?hg (N := 2) ?hd (cs := #[.int .i64 a0_0, .int .i64 a0_1, .int .i64 a0_2, .int .i64 a0_3, .bool a0_4]) (t := 25) ?hr ?_; (case hd => rfl); (case hg => rfl); (case hr => first | (go_simp; done) | (go_simp; rfl)); intro gb347 hg w8 hbox hb; have n0_ := Aside0.mk (below_step (by repeat (first | (with_reducible first | exact HB.out | apply below_alloc | apply pw_below_drewN | apply below_drew1) | exact HB.out)) hb); have n1_ := Aside0.mk (hbox); have n2_ := Aside0.mk ((by rw [hg]; exact (below_size (by repeat (first | (with_reducible first | exact HB.out | apply below_alloc | apply pw_below_drewN | apply below_drew1) | exact HB.out))) : w.heap.size ≤ gb347)); have n3_ := Aside0.mk ((by rw [hg]; exact (below_size (by repeat (first | (with_reducible first | exact HB.out | apply below_alloc | apply pw_below_drewN | apply below_drew1) | exact HB.out))) : w.heap.size ≤ gb347)); clear HB; have HB := n0_; have BK347 := n1_; have GW347 := n2_; have GE347 := n3_; clear n0_ n1_ n2_ n3_; clear hb hbox hg) | ((with_reducible refine gate_dst (N := 3) rfl ?_); refine box_event ?hg (N := 3) ?hd (cs := #[.int .i64 a1_0, .int .i64 a1_1, .int .i64 a1_2, .int .i64 a1_3, .bool a1_4]) (t := 25) ?hr ?_; (case hd => rfl); (case hg => rfl); (case hr => first | (go_simp; done) | (go_simp; rfl)); intro gb348 hg w9 hbox hb; have n0_ := Aside0.mk (blk_below (g := gb347) (o := .cells #[.int .i64 a0_0, .int .i64 a0_1, .int .i64 a0_2, .int .i64 a0_3, .bool a0_4] 25 (0, 0)) (by (with_reducible repeat (first | refine blk_drewN ?_ _ | refine blk_drew ?_ | refine blk_alloc ?_ _)); exact BK347.out) hb); have n1_ := Aside0.mk (below_step (by repeat (first | (with_reducible first | exact HB.out | apply below_alloc | apply pw_below_drewN | apply below_drew1 | refine below_set ?_ GE347.out) | exact HB.out)) hb); have n2_ := Aside0.mk (hbox); have n3_ := Aside0.mk ((by rw [hg]; exact (below_size (by repeat (first | (with_reducible first | exact HB.out | apply below_alloc | apply pw_below_drewN | apply below_drew1 | refine below_set ?_ GE347.out) | exact HB.out))) : w.heap.size ≤ gb348)); have n4_ := Aside0.mk ((by rw [hg]; exact (below_size (by repeat (first | (with_reducible first | exact HB.out | apply below_alloc | apply pw_below_drewN | apply below_drew1 | refine below_set ?_ GE347.out) | exact HB.out))) : w.heap.size ≤ gb348)); have n5_ := Aside0.mk ((by rw [hg]; exact Nat.ne_of_lt (blk_lt (g := gb347) (o := .cells #[.int .i64 a0_0, .int .i64 a0_1, .int .i64 a0_2, .int .i64 a0_3, .bool a0_4] 25 (0, 0)) (by (with_reducible repeat (first | refine blk_drewN ?_ _ | refine blk_drew ?_ | refine blk_alloc ?_ _)); exact BK347.out)) : gb347 ≠ gb348)); have n6_ := Aside0.mk ((by rw [hg]; exact Nat.ne_of_gt (blk_lt (g := gb347) (o := .cells #[.int .i64 a0_0, .int .i64 a0_1, .int .i64 a0_2, .int .i64 a0_3, .bool a0_4] 25 (0, 0)) (by (with_reducible repeat (first | refine blk_drewN ?_ _ | refine blk_drew ?_ | refine blk_alloc ?_ _)); exact BK347.out)) : gb348 ≠ gb347)); clear BK347; clear HB; have BK347 := n0_; have HB := n1_; have BK348 := n2_; have GW348 := n3_; have GE348 := n4_; have NB347_348 := n5_; have NB348_347 := n6_; clear n0_ n1_ n2_ n3_ n4_ n5_ n6_; clear hb hbox hg; have hnb10 := NB347_348.out; have hnc10 := NB348_347.out; have hcz11_0 : w9.cell? ⟨gb347, 0, none⟩ = some (.int .i64 a0_0) := (blk_cell BK347.out 0).trans rfl; have hcz11_1 : w9.cell? ⟨gb347, 1, none⟩ = some (.int .i64 a0_1) := (blk_cell BK347.out 1).trans rfl; have hcz11_2 : w9.cell? ⟨gb347, 2, none⟩ = some (.int .i64 a0_2) := (blk_cell BK347.out 2).trans rfl; have hcz11_3 : w9.cell? ⟨gb347, 3, none⟩ = some (.int .i64 a0_3) := (blk_cell BK347.out 3).trans rfl; have hcz11_4 : w9.cell? ⟨gb347, 4, none⟩ = some (.bool a0_4) := (blk_cell BK347.out 4).trans rfl; have hfz11_0 := blk_frozen BK347.out 0; have hfz11_1 := blk_frozen BK347.out 1; have hfz11_2 := blk_frozen BK347.out 2; have hfz11_3 := blk_frozen BK347.out 3; have hfz11_4 := blk_frozen BK347.out 4) | ((with_reducible refine gate_callee (f := 16) rfl ?_); refine goesL_ (some 7) rfl rfl Try.func16 (by kernel_rfl) rfl #[.agg #[.int .i64 a0_0, .int .i64 a0_1, .int .i64 a0_2, .int .i64 a0_3, .bool a0_4]] rfl (by (try simp only [List.map_toArray, List.map_cons, List.map_nil]); first | done | rfl | (simp only [List.length_drop, List.length_take]; rfl)) ?_; (with_reducible refine (impl_IsAppraisal.calls a0_0 a0_1 a0_2 a0_3 a0_4 true _ A3.out).mono ?_); rintro e w12 ⟨rfl, hb⟩; refine ⟨_, rfl, ?_⟩; have n0_ := Aside0.mk (blk_below (g := gb347) (o := .cells #[.int .i64 a0_0, .int .i64 a0_1, .int .i64 a0_2, .int .i64 a0_3, .bool a0_4] 25 (0, 0)) (by (with_reducible repeat (first | refine blk_drewN ?_ _ | refine blk_drew ?_ | refine blk_alloc ?_ _)); exact BK347.out) hb); have n1_ := Aside0.mk (blk_below (g := gb348) (o := .cells #[.int .i64 a1_0, .int .i64 a1_1, .int .i64 a1_2, .int .i64 a1_3, .bool a1_4] 25 (0, 0)) (by (with_reducible repeat (first | refine blk_drewN ?_ _ | refine blk_drew ?_ | refine blk_alloc ?_ _)); exact BK348.out) hb); have n2_ := Aside0.mk (below_step (by repeat (first | (with_reducible first | exact HB.out | apply below_alloc | apply pw_below_drewN | apply below_drew1 | refine below_set ?_ GE347.out | refine below_set ?_ GE348.out) | exact HB.out)) hb); clear BK347; clear BK348; clear HB; have BK347 := n0_; have BK348 := n1_; have HB := n2_; clear n0_ n1_ n2_; (try clear hb); (try clear hb2); (try clear hk); (try clear hi); have hcz13_0 : w12.cell? ⟨gb348, 0, none⟩ = some (.int .i64 a1_0) := (blk_cell BK348.out 0).trans rfl; have hcz13_1 : w12.cell? ⟨gb348, 1, none⟩ = some (.int .i64 a1_1) := (blk_cell BK348.out 1).trans rfl; have hcz13_2 : w12.cell? ⟨gb348, 2, none⟩ = some (.int .i64 a1_2) := (blk_cell BK348.out 2).trans rfl; have hcz13_3 : w12.cell? ⟨gb348, 3, none⟩ = some (.int .i64 a1_3) := (blk_cell BK348.out 3).trans rfl; have hcz13_4 : w12.cell? ⟨gb348, 4, none⟩ = some (.bool a1_4) := (blk_cell BK348.out 4).trans rfl; have hfz13_0 := blk_frozen BK348.out 0; have hfz13_1 := blk_frozen BK348.out 1; have hfz13_2 := blk_frozen BK348.out 2; have hfz13_3 := blk_frozen BK348.out 3; have hfz13_4 := blk_frozen BK348.out 4) | (go_at_call 16; (with_reducible refine (impl_IsAppraisal.calls a1_0 a1_1 a1_2 a1_3 a1_4 true _ A5.out).mono ?_); rintro e w14 ⟨rfl, hb⟩; have n0_ := Aside0.mk (blk_below (g := gb347) (o := .cells #[.int .i64 a0_0, .int .i64 a0_1, .int .i64 a0_2, .int .i64 a0_3, .bool a0_4] 25 (0, 0)) (by (with_reducible repeat (first | refine blk_drewN ?_ _ | refine blk_drew ?_ | refine blk_alloc ?_ _)); exact BK347.out) hb); have n1_ := Aside0.mk (blk_below (g := gb348) (o := .cells #[.int .i64 a1_0, .int .i64 a1_1, .int .i64 a1_2, .int .i64 a1_3, .bool a1_4] 25 (0, 0)) (by (with_reducible repeat (first | refine blk_drewN ?_ _ | refine blk_drew ?_ | refine blk_alloc ?_ _)); exact BK348.out) hb); have n2_ := Aside0.mk (below_step (by repeat (first | (with_reducible first | exact HB.out | apply below_alloc | apply pw_below_drewN | apply below_drew1 | refine below_set ?_ GE347.out | refine below_set ?_ GE348.out) | exact HB.out)) hb); clear BK347; clear BK348; clear HB; have BK347 := n0_; have BK348 := n1_; have HB := n2_; clear n0_ n1_ n2_; (try clear hb); (try clear hb2); (try clear hk); (try clear hi); have hcz15_0 : w14.cell? ⟨gb347, 0, none⟩ = some (.int .i64 a0_0) := (blk_cell BK347.out 0).trans rfl; have hcz15_1 : w14.cell? ⟨gb347, 1, none⟩ = some (.int .i64 a0_1) := (blk_cell BK347.out 1).trans rfl; have hcz15_2 : w14.cell? ⟨gb347, 2, none⟩ = some (.int .i64 a0_2) := (blk_cell BK347.out 2).trans rfl; have hcz15_3 : w14.cell? ⟨gb347, 3, none⟩ = some (.int .i64 a0_3) := (blk_cell BK347.out 3).trans rfl; have hcz15_4 : w14.cell? ⟨gb347, 4, none⟩ = some (.bool a0_4) := (blk_cell BK347.out 4).trans rfl; have hfz15_0 := blk_frozen BK347.out 0; have hfz15_1 := blk_frozen BK347.out 1; have hfz15_2 := blk_frozen BK347.out 2; have hfz15_3 := blk_frozen BK347.out 3; have hfz15_4 := blk_frozen BK347.out 4; have hcz16_0 : w14.cell? ⟨gb348, 0, none⟩ = some (.int .i64 a1_0) := (blk_cell BK348.out 0).trans rfl; have hcz16_1 : w14.cell? ⟨gb348, 1, none⟩ = some (.int .i64 a1_1) := (blk_cell BK348.out 1).trans rfl; have hcz16_2 : w14.cell? ⟨gb348, 2, none⟩ = some (.int .i64 a1_2) := (blk_cell BK348.out 2).trans rfl; have hcz16_3 : w14.cell? ⟨gb348, 3, none⟩ = some (.int .i64 a1_3) := (blk_cell BK348.out 3).trans rfl; have hcz16_4 : w14.cell? ⟨gb348, 4, none⟩ = some (.bool a1_4) := (blk_cell BK348.out 4).trans rfl; have hfz16_0 := blk_frozen BK348.out 0; have hfz16_1 := blk_frozen BK348.out 1; have hfz16_2 := blk_frozen BK348.out 2; have hfz16_3 := blk_frozen BK348.out 3; have hfz16_4 := blk_frozen BK348.out 4) | ((with_reducible refine gate_callee (f := 53) rfl ?_); refine goesL_ (some 16) rfl rfl Try.func53 (by kernel_rfl) rfl #[.agg #[.int .i64 a0_0, .int .i64 a0_1, .int .i64 a0_2, .int .i64 a0_3, .bool a0_4], .agg #[.int .i64 a1_0, .int .i64 a1_1, .int .i64 a1_2, .int .i64 a1_3, .bool a1_4]] rfl (by (try simp only [List.map_toArray, List.map_cons, List.map_nil]); first | done | rfl | (simp only [List.length_drop, List.length_take]; rfl)) ?_; (with_reducible refine (impl_Appraisal_isAlike.calls a0_0 a0_1 a0_2 a0_3 a0_4 a1_0 a1_1 a1_2 a1_3 a1_4 t351 _ A7.out).mono ?_); rintro e w17 ⟨rfl, hb⟩; refine ⟨_, rfl, ?_⟩; have n0_ := Aside0.mk (blk_below (g := gb347) (o := .cells #[.int .i64 a0_0, .int .i64 a0_1, .int .i64 a0_2, .int .i64 a0_3, .bool a0_4] 25 (0, 0)) (by (with_reducible repeat (first | refine blk_drewN ?_ _ | refine blk_drew ?_ | refine blk_alloc ?_ _)); exact BK347.out) hb); have n1_ := Aside0.mk (blk_below (g := gb348) (o := .cells #[.int .i64 a1_0, .int .i64 a1_1, .int .i64 a1_2, .int .i64 a1_3, .bool a1_4] 25 (0, 0)) (by (with_reducible repeat (first | refine blk_drewN ?_ _ | refine blk_drew ?_ | refine blk_alloc ?_ _)); exact BK348.out) hb); have n2_ := Aside0.mk (below_step (by repeat (first | (with_reducible first | exact HB.out | apply below_alloc | apply pw_below_drewN | apply below_drew1 | refine below_set ?_ GE347.out | refine below_set ?_ GE348.out) | exact HB.out)) hb); clear BK347; clear BK348; clear HB; have BK347 := n0_; have BK348 := n1_; have HB := n2_; clear n0_ n1_ n2_; (try clear hb); (try clear hb2); (try clear hk); (try clear hi)))
   go_ret2
   exact ⟨by first | rfl | (simp [errW_none, errW_some] <;> rfl) | (simp [*, errW_none, errW_some] <;> rfl) | (simp [wrap64]; done), by repeat (first | (with_reducible first | exact HB.out | apply below_alloc | apply pw_below_drewN | apply below_drew1 | refine below_set ?_ GE347.out | refine below_set ?_ GE348.out) | exact HB.out)⟩
  ·replace c6 := Bool.eq_false_iff.mpr c6
   subst c6
   rw [if_neg (show ¬ (false = true) by decide)] at H
   simp only [Option.some.injEq, Prod.mk.injEq] at H
   obtain ⟨rfl, rfl⟩ := H
   go_enter Try.func18, Try.ntmps18
   go_wp2_with (first | ((with_reducible refine gate_dst (N := 2) rfl ?_); refine box_event ?hg (N := 2) ?hd (cs := #[.int .i64 a0_0, .int .i64 a0_1, .int .i64 a0_2, .int .i64 a0_3, .bool a0_4]) (t := 25) ?hr ?_; (case hd => rfl); (case hg => rfl); (case hr => first | (go_simp; done) | (go_simp; rfl)); intro gb347 hg w18 hbox hb; have n0_ := Aside0.mk (below_step (by repeat (first | (with_reducible first | exact HB.out | apply below_alloc | apply pw_below_drewN | apply below_drew1) | exact HB.out)) hb); have n1_ := Aside0.mk (hbox); have n2_ := Aside0.mk ((by rw [hg]; exact (below_size (by repeat (first | (with_reducible first | exact HB.out | apply below_alloc | apply pw_below_drewN | apply below_drew1) | exact HB.out))) : w.heap.size ≤ gb347)); have n3_ := Aside0.mk ((by rw [hg]; exact (below_size (by repeat (first | (with_reducible first | exact HB.out | apply below_alloc | apply pw_below_drewN | apply below_drew1) | exact HB.out))) : w.heap.size ≤ gb347)); clear HB; have HB := n0_; have BK347 := n1_; have GW347 := n2_; have GE347 := n3_; clear n0_ n1_ n2_ n3_; clear hb hbox hg) | ((with_reducible refine gate_dst (N := 3) rfl ?_); refine box_event ?hg (N := 3) ?hd (cs := #[.int .i64 a1_0, .int .i64 a1_1, .int .i64 a1_2, .int .i64 a1_3, .bool a1_4]) (t := 25) ?hr ?_; (case hd => rfl); (case hg => rfl); (case hr => first | (go_simp; done) | (go_simp; rfl)); intro gb348 hg w19 hbox hb; have n0_ := Aside0.mk (blk_below (g := gb347) (o := .cells #[.int .i64 a0_0, .int .i64 a0_1, .int .i64 a0_2, .int .i64 a0_3, .bool a0_4] 25 (0, 0)) (by (with_reducible repeat (first | refine blk_drewN ?_ _ | refine blk_drew ?_ | refine blk_alloc ?_ _)); exact BK347.out) hb); have n1_ := Aside0.mk (below_step (by repeat (first | (with_reducible first | exact HB.out | apply below_alloc | apply pw_below_drewN | apply below_drew1 | refine below_set ?_ GE347.out) | exact HB.out)) hb); have n2_ := Aside0.mk (hbox); have n3_ := Aside0.mk ((by rw [hg]; exact (below_size (by repeat (first | (with_reducible first | exact HB.out | apply below_alloc | apply pw_below_drewN | apply below_drew1 | refine below_set ?_ GE347.out) | exact HB.out))) : w.heap.size ≤ gb348)); have n4_ := Aside0.mk ((by rw [hg]; exact (below_size (by repeat (first | (with_reducible first | exact HB.out | apply below_alloc | apply pw_below_drewN | apply below_drew1 | refine below_set ?_ GE347.out) | exact HB.out))) : w.heap.size ≤ gb348)); have n5_ := Aside0.mk ((by rw [hg]; exact Nat.ne_of_lt (blk_lt (g := gb347) (o := .cells #[.int .i64 a0_0, .int .i64 a0_1, .int .i64 a0_2, .int .i64 a0_3, .bool a0_4] 25 (0, 0)) (by (with_reducible repeat (first | refine blk_drewN ?_ _ | refine blk_drew ?_ | refine blk_alloc ?_ _)); exact BK347.out)) : gb347 ≠ gb348)); have n6_ := Aside0.mk ((by rw [hg]; exact Nat.ne_of_gt (blk_lt (g := gb347) (o := .cells #[.int .i64 a0_0, .int .i64 a0_1, .int .i64 a0_2, .int .i64 a0_3, .bool a0_4] 25 (0, 0)) (by (with_reducible repeat (first | refine blk_drewN ?_ _ | refine blk_drew ?_ | refine blk_alloc ?_ _)); exact BK347.out)) : gb348 ≠ gb347)); clear BK347; clear HB; have BK347 := n0_; have HB := n1_; have BK348 := n2_; have GW348 := n3_; have GE348 := n4_; have NB347_348 := n5_; have NB348_347 := n6_; clear n0_ n1_ n2_ n3_ n4_ n5_ n6_; clear hb hbox hg; have hnb20 := NB347_348.out; have hnc20 := NB348_347.out; have hcz21_0 : w19.cell? ⟨gb347, 0, none⟩ = some (.int .i64 a0_0) := (blk_cell BK347.out 0).trans rfl; have hcz21_1 : w19.cell? ⟨gb347, 1, none⟩ = some (.int .i64 a0_1) := (blk_cell BK347.out 1).trans rfl; have hcz21_2 : w19.cell? ⟨gb347, 2, none⟩ = some (.int .i64 a0_2) := (blk_cell BK347.out 2).trans rfl; have hcz21_3 : w19.cell? ⟨gb347, 3, none⟩ = some (.int .i64 a0_3) := (blk_cell BK347.out 3).trans rfl; have hcz21_4 : w19.cell? ⟨gb347, 4, none⟩ = some (.bool a0_4) := (blk_cell BK347.out 4).trans rfl; have hfz21_0 := blk_frozen BK347.out 0; have hfz21_1 := blk_frozen BK347.out 1; have hfz21_2 := blk_frozen BK347.out 2; have hfz21_3 := blk_frozen BK347.out 3; have hfz21_4 := blk_frozen BK347.out 4) | ((with_reducible refine gate_callee (f := 16) rfl ?_); refine goesL_ (some 7) rfl rfl Try.func16 (by kernel_rfl) rfl #[.agg #[.int .i64 a0_0, .int .i64 a0_1, .int .i64 a0_2, .int .i64 a0_3, .bool a0_4]] rfl (by (try simp only [List.map_toArray, List.map_cons, List.map_nil]); first | done | rfl | (simp only [List.length_drop, List.length_take]; rfl)) ?_; (with_reducible refine (impl_IsAppraisal.calls a0_0 a0_1 a0_2 a0_3 a0_4 true _ A3.out).mono ?_); rintro e w22 ⟨rfl, hb⟩; refine ⟨_, rfl, ?_⟩; have n0_ := Aside0.mk (blk_below (g := gb347) (o := .cells #[.int .i64 a0_0, .int .i64 a0_1, .int .i64 a0_2, .int .i64 a0_3, .bool a0_4] 25 (0, 0)) (by (with_reducible repeat (first | refine blk_drewN ?_ _ | refine blk_drew ?_ | refine blk_alloc ?_ _)); exact BK347.out) hb); have n1_ := Aside0.mk (blk_below (g := gb348) (o := .cells #[.int .i64 a1_0, .int .i64 a1_1, .int .i64 a1_2, .int .i64 a1_3, .bool a1_4] 25 (0, 0)) (by (with_reducible repeat (first | refine blk_drewN ?_ _ | refine blk_drew ?_ | refine blk_alloc ?_ _)); exact BK348.out) hb); have n2_ := Aside0.mk (below_step (by repeat (first | (with_reducible first | exact HB.out | apply below_alloc | apply pw_below_drewN | apply below_drew1 | refine below_set ?_ GE347.out | refine below_set ?_ GE348.out) | exact HB.out)) hb); clear BK347; clear BK348; clear HB; have BK347 := n0_; have BK348 := n1_; have HB := n2_; clear n0_ n1_ n2_; (try clear hb); (try clear hb2); (try clear hk); (try clear hi); have hcz23_0 : w22.cell? ⟨gb348, 0, none⟩ = some (.int .i64 a1_0) := (blk_cell BK348.out 0).trans rfl; have hcz23_1 : w22.cell? ⟨gb348, 1, none⟩ = some (.int .i64 a1_1) := (blk_cell BK348.out 1).trans rfl; have hcz23_2 : w22.cell? ⟨gb348, 2, none⟩ = some (.int .i64 a1_2) := (blk_cell BK348.out 2).trans rfl; have hcz23_3 : w22.cell? ⟨gb348, 3, none⟩ = some (.int .i64 a1_3) := (blk_cell BK348.out 3).trans rfl; have hcz23_4 : w22.cell? ⟨gb348, 4, none⟩ = some (.bool a1_4) := (blk_cell BK348.out 4).trans rfl; have hfz23_0 := blk_frozen BK348.out 0; have hfz23_1 := blk_frozen BK348.out 1; have hfz23_2 := blk_frozen BK348.out 2; have hfz23_3 := blk_frozen BK348.out 3; have hfz23_4 := blk_frozen BK348.out 4) | (go_at_call 16; (with_reducible refine (impl_IsAppraisal.calls a1_0 a1_1 a1_2 a1_3 a1_4 false _ A5.out).mono ?_); rintro e w24 ⟨rfl, hb⟩; have n0_ := Aside0.mk (blk_below (g := gb347) (o := .cells #[.int .i64 a0_0, .int .i64 a0_1, .int .i64 a0_2, .int .i64 a0_3, .bool a0_4] 25 (0, 0)) (by (with_reducible repeat (first | refine blk_drewN ?_ _ | refine blk_drew ?_ | refine blk_alloc ?_ _)); exact BK347.out) hb); have n1_ := Aside0.mk (blk_below (g := gb348) (o := .cells #[.int .i64 a1_0, .int .i64 a1_1, .int .i64 a1_2, .int .i64 a1_3, .bool a1_4] 25 (0, 0)) (by (with_reducible repeat (first | refine blk_drewN ?_ _ | refine blk_drew ?_ | refine blk_alloc ?_ _)); exact BK348.out) hb); have n2_ := Aside0.mk (below_step (by repeat (first | (with_reducible first | exact HB.out | apply below_alloc | apply pw_below_drewN | apply below_drew1 | refine below_set ?_ GE347.out | refine below_set ?_ GE348.out) | exact HB.out)) hb); clear BK347; clear BK348; clear HB; have BK347 := n0_; have BK348 := n1_; have HB := n2_; clear n0_ n1_ n2_; (try clear hb); (try clear hb2); (try clear hk); (try clear hi)))
   go_ret2
   exact ⟨by first | rfl | (simp [errW_none, errW_some] <;> rfl) | (simp [*, errW_none, errW_some] <;> rfl) | (simp [wrap64]; done), by repeat (first | (with_reducible first | exact HB.out | apply below_alloc | apply pw_below_drewN | apply below_drew1 | refine below_set ?_ GE347.out | refine below_set ?_ GE348.out) | exact HB.out)⟩
 ·replace c4 := Bool.eq_false_iff.mpr c4
  subst c4
  rw [if_neg (show ¬ (false = true) by decide)] at H
  simp only [Option.some.injEq, Prod.mk.injEq] at H
  obtain ⟨rfl, rfl⟩ := H
  go_enter Try.func18, Try.ntmps18
  go_wp2_with (first | ((with_reducible refine gate_dst (N := 2) rfl ?_); refine box_event ?hg (N := 2) ?hd (cs := #[.int .i64 a0_0, .int .i64 a0_1, .int .i64 a0_2, .int .i64 a0_3, .bool a0_4]) (t := 25) ?hr ?_; (case hd => rfl); (case hg => rfl); (case hr => first | (go_simp; done) | (go_simp; rfl)); intro gb347 hg w25 hbox hb; have n0_ := Aside0.mk (below_step (by repeat (first | (with_reducible first | exact HB.out | apply below_alloc | apply pw_below_drewN | apply below_drew1) | exact HB.out)) hb); have n1_ := Aside0.mk (hbox); have n2_ := Aside0.mk ((by rw [hg]; exact (below_size (by repeat (first | (with_reducible first | exact HB.out | apply below_alloc | apply pw_below_drewN | apply below_drew1) | exact HB.out))) : w.heap.size ≤ gb347)); have n3_ := Aside0.mk ((by rw [hg]; exact (below_size (by repeat (first | (with_reducible first | exact HB.out | apply below_alloc | apply pw_below_drewN | apply below_drew1) | exact HB.out))) : w.heap.size ≤ gb347)); clear HB; have HB := n0_; have BK347 := n1_; have GW347 := n2_; have GE347 := n3_; clear n0_ n1_ n2_ n3_; clear hb hbox hg) | ((with_reducible refine gate_dst (N := 3) rfl ?_); refine box_event ?hg (N := 3) ?hd (cs := #[.int .i64 a1_0, .int .i64 a1_1, .int .i64 a1_2, .int .i64 a1_3, .bool a1_4]) (t := 25) ?hr ?_; (case hd => rfl); (case hg => rfl); (case hr => first | (go_simp; done) | (go_simp; rfl)); intro gb348 hg w26 hbox hb; have n0_ := Aside0.mk (blk_below (g := gb347) (o := .cells #[.int .i64 a0_0, .int .i64 a0_1, .int .i64 a0_2, .int .i64 a0_3, .bool a0_4] 25 (0, 0)) (by (with_reducible repeat (first | refine blk_drewN ?_ _ | refine blk_drew ?_ | refine blk_alloc ?_ _)); exact BK347.out) hb); have n1_ := Aside0.mk (below_step (by repeat (first | (with_reducible first | exact HB.out | apply below_alloc | apply pw_below_drewN | apply below_drew1 | refine below_set ?_ GE347.out) | exact HB.out)) hb); have n2_ := Aside0.mk (hbox); have n3_ := Aside0.mk ((by rw [hg]; exact (below_size (by repeat (first | (with_reducible first | exact HB.out | apply below_alloc | apply pw_below_drewN | apply below_drew1 | refine below_set ?_ GE347.out) | exact HB.out))) : w.heap.size ≤ gb348)); have n4_ := Aside0.mk ((by rw [hg]; exact (below_size (by repeat (first | (with_reducible first | exact HB.out | apply below_alloc | apply pw_below_drewN | apply below_drew1 | refine below_set ?_ GE347.out) | exact HB.out))) : w.heap.size ≤ gb348)); have n5_ := Aside0.mk ((by rw [hg]; exact Nat.ne_of_lt (blk_lt (g := gb347) (o := .cells #[.int .i64 a0_0, .int .i64 a0_1, .int .i64 a0_2, .int .i64 a0_3, .bool a0_4] 25 (0, 0)) (by (with_reducible repeat (first | refine blk_drewN ?_ _ | refine blk_drew ?_ | refine blk_alloc ?_ _)); exact BK347.out)) : gb347 ≠ gb348)); have n6_ := Aside0.mk ((by rw [hg]; exact Nat.ne_of_gt (blk_lt (g := gb347) (o := .cells #[.int .i64 a0_0, .int .i64 a0_1, .int .i64 a0_2, .int .i64 a0_3, .bool a0_4] 25 (0, 0)) (by (with_reducible repeat (first | refine blk_drewN ?_ _ | refine blk_drew ?_ | refine blk_alloc ?_ _)); exact BK347.out)) : gb348 ≠ gb347)); clear BK347; clear HB; have BK347 := n0_; have HB := n1_; have BK348 := n2_; have GW348 := n3_; have GE348 := n4_; have NB347_348 := n5_; have NB348_347 := n6_; clear n0_ n1_ n2_ n3_ n4_ n5_ n6_; clear hb hbox hg; have hnb27 := NB347_348.out; have hnc27 := NB348_347.out; have hcz28_0 : w26.cell? ⟨gb347, 0, none⟩ = some (.int .i64 a0_0) := (blk_cell BK347.out 0).trans rfl; have hcz28_1 : w26.cell? ⟨gb347, 1, none⟩ = some (.int .i64 a0_1) := (blk_cell BK347.out 1).trans rfl; have hcz28_2 : w26.cell? ⟨gb347, 2, none⟩ = some (.int .i64 a0_2) := (blk_cell BK347.out 2).trans rfl; have hcz28_3 : w26.cell? ⟨gb347, 3, none⟩ = some (.int .i64 a0_3) := (blk_cell BK347.out 3).trans rfl; have hcz28_4 : w26.cell? ⟨gb347, 4, none⟩ = some (.bool a0_4) := (blk_cell BK347.out 4).trans rfl; have hfz28_0 := blk_frozen BK347.out 0; have hfz28_1 := blk_frozen BK347.out 1; have hfz28_2 := blk_frozen BK347.out 2; have hfz28_3 := blk_frozen BK347.out 3; have hfz28_4 := blk_frozen BK347.out 4) | ((with_reducible refine gate_callee (f := 16) rfl ?_); refine goesL_ (some 7) rfl rfl Try.func16 (by kernel_rfl) rfl #[.agg #[.int .i64 a0_0, .int .i64 a0_1, .int .i64 a0_2, .int .i64 a0_3, .bool a0_4]] rfl (by (try simp only [List.map_toArray, List.map_cons, List.map_nil]); first | done | rfl | (simp only [List.length_drop, List.length_take]; rfl)) ?_; (with_reducible refine (impl_IsAppraisal.calls a0_0 a0_1 a0_2 a0_3 a0_4 false _ A3.out).mono ?_); rintro e w29 ⟨rfl, hb⟩; refine ⟨_, rfl, ?_⟩; have n0_ := Aside0.mk (blk_below (g := gb347) (o := .cells #[.int .i64 a0_0, .int .i64 a0_1, .int .i64 a0_2, .int .i64 a0_3, .bool a0_4] 25 (0, 0)) (by (with_reducible repeat (first | refine blk_drewN ?_ _ | refine blk_drew ?_ | refine blk_alloc ?_ _)); exact BK347.out) hb); have n1_ := Aside0.mk (blk_below (g := gb348) (o := .cells #[.int .i64 a1_0, .int .i64 a1_1, .int .i64 a1_2, .int .i64 a1_3, .bool a1_4] 25 (0, 0)) (by (with_reducible repeat (first | refine blk_drewN ?_ _ | refine blk_drew ?_ | refine blk_alloc ?_ _)); exact BK348.out) hb); have n2_ := Aside0.mk (below_step (by repeat (first | (with_reducible first | exact HB.out | apply below_alloc | apply pw_below_drewN | apply below_drew1 | refine below_set ?_ GE347.out | refine below_set ?_ GE348.out) | exact HB.out)) hb); clear BK347; clear BK348; clear HB; have BK347 := n0_; have BK348 := n1_; have HB := n2_; clear n0_ n1_ n2_; (try clear hb); (try clear hb2); (try clear hk); (try clear hi)))
  go_ret2
  exact ⟨by first | rfl | (simp [errW_none, errW_some] <;> rfl) | (simp [*, errW_none, errW_some] <;> rfl) | (simp [wrap64]; done), by repeat (first | (with_reducible first | exact HB.out | apply below_alloc | apply pw_below_drewN | apply below_drew1 | refine below_set ?_ GE347.out | refine below_set ?_ GE348.out) | exact HB.out)⟩

end Go.Proofs.Ytembbdhhpblapaa.Q

namespace Go.Proofs.Ytembbdhhpblapaa.Q
open Go.RowKit Go.Proofs.YtembbdhhpblapaaW.PrintWords Go.Proofs.YtembbdhhpblapaaW.PrintLast Go.Proofs.YtembbdhhpblapaaW.PrintMore
attribute [local go_sem] max2_int min2_int max_two min_two max_three min_three max_four min_four
set_option linter.unusedVariables false
set_option linter.unusedSimpArgs false

/-! ### laws_rTable: function 47 -/
def laws_rTable.l0 : Nat → List (List Int) → List (List Int) → Int → Option (Bool)
 | 0, _, _, _ => none
 | k + 1, x0, x1, x5 => if x5 < (x0.length : Int) then (if 0 ≤ x5 then (if x5 < (x1.length : Int) then ((laws_rInts.f k (rd_L6 x0 x5) (rd_L6 x1 x5)).bind fun t555 => (if t555 = true then (laws_rTable.l0 k x0 x1 (wrap64 (x5 + 1))) else (some false))) else (none)) else (none)) else (some true)
def laws_rTable.f (k : Nat) (l0 : List (List Int)) (l1 : List (List Int)) : Option (Bool) := if (l0.length : Int) = (l1.length : Int) then (laws_rTable.l0 k l0 l1 0) else (some false)
set_option maxHeartbeats 8000000 in
set_option maxRecDepth 100000 in
theorem laws_rTable.calls (k : Nat) (A0 : Option Addr) (c0 : Nat) (l0 : List (List Int)) (A1 : Option Addr) (c1 : Nat) (l1 : List (List Int)) (r : Bool) (w : World) (hr0 : Kd.C (Kd.slice 3 (Kd.int .i64)) w A0 l0.length l0) (hc0 : l0.length ≤ c0) (hr1 : Kd.C (Kd.slice 3 (Kd.int .i64)) w A1 l1.length l1) (hc1 : l1.length ≤ c1) (h : laws_rTable.f k l0 l1 = some r) :
  Calls Try.prog 47 #[.slice A0 l0.length c0, .slice A1 l1.length c1] w fun e w' => e = .returned (.bool r) ∧ Drawn0 w w' := by
 have HR0 := Aside0.mk hr0
 have HC0 := Aside0.mk hc0
 clear hr0 hc0
 have HR1 := Aside0.mk hr1
 have HC1 := Aside0.mk hc1
 clear hr1 hc1
 have H : (if (l0.length : Int) = (l1.length : Int) then (laws_rTable.l0 k l0 l1 0) else (some false)) = some r := h
 clear h
 by_cases c3 : (l0.length : Int) = (l1.length : Int)
 ·rw [if_pos c3] at H
  have c3b0 : ((l0.length : Int) == (l1.length : Int)) = true := beq_iff_eq.mpr c3
  have c3b1 : ((l0.length : Int) != (l1.length : Int)) = false := bne_eq_false_iff_eq.mpr c3
  have c3b2 : (l0.length == l1.length) = true := by first | simpa using c3 | (simp at c3 ⊢; omega)
  clear c3
  have H' := Aside0.mk H
  clear H
  go_enter Try.func47, Try.ntmps47
  go_wp2
  repeat (go_quiet (fail); try go_wp2)
  go_loopg [5] k (fun kq v5 w' => ∃ (x5_1 : Int), v5 = .int .i64 x5_1 ∧ Aside0 (laws_rTable.l0 kq l0 l1 x5_1 = some r) ∧ Aside0 (kq ≤ k) ∧ Drawn0 w w')
  case atStart => exact ⟨(0), (by first | rfl | (simp; done) | (simp [*]; done)), H', ⟨Nat.le_refl _⟩, by repeat (first | exact Drawn0.refl _ | apply Drawn0.step)⟩
  case round =>
   clear H'
   try clear c1
   try clear p2
   try clear c3
   try clear c3b0
   try clear c3b1
   try clear c3b2
   obtain ⟨x5_1, rfl, HA, HK1, ⟨m1, rfl⟩⟩ := hrel
   cases gk with
   | zero => exact absurd HA.out (by simp [laws_rTable.l0])
   | succ k1 =>
    have H := HA.out
    clear HA
    simp only [laws_rTable.l0] at H
    by_cases c4 : x5_1 < (l0.length : Int)
    ·rw [if_pos c4] at H
     have c4b0 : decide (x5_1 < (l0.length : Int)) = true := decide_eq_true c4
     clear c4
     by_cases c5 : 0 ≤ x5_1
     ·rw [if_pos c5] at H
      have c5b0 : decide (0 ≤ x5_1) = true := decide_eq_true c5
      clear c5
      by_cases c6 : x5_1 < (l1.length : Int)
      ·rw [if_pos c6] at H
       have c6b0 : decide (x5_1 < (l1.length : Int)) = true := decide_eq_true c6
       clear c6
       replace H := Option.bind_eq_some_iff.mp H
       obtain ⟨t555, A70, H⟩ := H
       have A7 := Aside0.mk A70
       clear A70
       by_cases c8 : t555 = true
       ·subst c8
        rw [if_pos rfl] at H
        have H' := Aside0.mk H
        clear H
        have p553 : 0 ≤ (x5_1 : Int) := of_decide_eq_true (by first | (with_reducible assumption) | assumption)
        have q553 : x5_1 < (l0.length : Int) := of_decide_eq_true (by first | (with_reducible assumption) | assumption)
        obtain ⟨ad553, A553_0, c553_0, e553, hx553_0, hl553_0, hi553_0⟩ := at_L6 HR0.out x5_1 p553 q553
        cases e553
        have HR553_0 := Aside0.mk hi553_0
        have HC553_0 := Aside0.mk hl553_0
        clear hi553_0 hl553_0
        replace p553 := eq_true p553
        replace q553 := eq_true q553
        have p554 : 0 ≤ (x5_1 : Int) := of_decide_eq_true (by first | (with_reducible assumption) | assumption)
        have q554 : x5_1 < (l1.length : Int) := of_decide_eq_true (by first | (with_reducible assumption) | assumption)
        obtain ⟨ad554, A554_0, c554_0, e554, hx554_0, hl554_0, hi554_0⟩ := at_L6 HR1.out x5_1 p554 q554
        cases e554
        have HR554_0 := Aside0.mk hi554_0
        have HC554_0 := Aside0.mk hl554_0
        clear hi554_0 hl554_0
        replace p554 := eq_true p554
        replace q554 := eq_true q554
        go_wp2_with (first | (go_at_call 84; (with_reducible refine (laws_rInts.calls k1 _ _ (rd_L6 l0 x5_1) _ _ (rd_L6 l1 x5_1) true _ ?side1 ?side2 ?side3 ?side4 A7.out).mono ?_); (case side1 => repeat (first | exact HR553_0.out | (with_reducible refine Kd.C_alloc ?_ _) | (with_reducible refine Kd.C_drewN ?_ _) | (with_reducible refine Kd.C_drew ?_))); (case side2 => exact HC553_0.out); (case side3 => repeat (first | exact HR554_0.out | (with_reducible refine Kd.C_alloc ?_ _) | (with_reducible refine Kd.C_drewN ?_ _) | (with_reducible refine Kd.C_drew ?_))); (case side4 => exact HC554_0.out); rintro e w' ⟨rfl, ⟨nd, rfl⟩⟩; (try first | exact ⟨rfl, _, World.drewN_drewN _ _ _⟩ | exact ⟨rfl, _, Eq.trans (World.drewN_drewN _ _ _) (congrArg (World.drewN _) (Nat.add_assoc _ _ _))⟩)))
        repeat (go_quiet (first | (go_at_call 84; (with_reducible refine (laws_rInts.calls k1 _ _ (rd_L6 l0 x5_1) _ _ (rd_L6 l1 x5_1) true _ ?side1 ?side2 ?side3 ?side4 A7.out).mono ?_); (case side1 => repeat (first | exact HR553_0.out | (with_reducible refine Kd.C_alloc ?_ _) | (with_reducible refine Kd.C_drewN ?_ _) | (with_reducible refine Kd.C_drew ?_))); (case side2 => exact HC553_0.out); (case side3 => repeat (first | exact HR554_0.out | (with_reducible refine Kd.C_alloc ?_ _) | (with_reducible refine Kd.C_drewN ?_ _) | (with_reducible refine Kd.C_drew ?_))); (case side4 => exact HC554_0.out); rintro e w' ⟨rfl, ⟨nd, rfl⟩⟩; (try first | exact ⟨rfl, _, World.drewN_drewN _ _ _⟩ | exact ⟨rfl, _, Eq.trans (World.drewN_drewN _ _ _) (congrArg (World.drewN _) (Nat.add_assoc _ _ _))⟩))); try go_wp2_with (first | (go_at_call 84; (with_reducible refine (laws_rInts.calls k1 _ _ (rd_L6 l0 x5_1) _ _ (rd_L6 l1 x5_1) true _ ?side1 ?side2 ?side3 ?side4 A7.out).mono ?_); (case side1 => repeat (first | exact HR553_0.out | (with_reducible refine Kd.C_alloc ?_ _) | (with_reducible refine Kd.C_drewN ?_ _) | (with_reducible refine Kd.C_drew ?_))); (case side2 => exact HC553_0.out); (case side3 => repeat (first | exact HR554_0.out | (with_reducible refine Kd.C_alloc ?_ _) | (with_reducible refine Kd.C_drewN ?_ _) | (with_reducible refine Kd.C_drew ?_))); (case side4 => exact HC554_0.out); rintro e w' ⟨rfl, ⟨nd, rfl⟩⟩; (try first | exact ⟨rfl, _, World.drewN_drewN _ _ _⟩ | exact ⟨rfl, _, Eq.trans (World.drewN_drewN _ _ _) (congrArg (World.drewN _) (Nat.add_assoc _ _ _))⟩))))
        go_roundg k1
        case measure => have := HK1.out; omega
        case rel => exact ⟨(wrap64 (x5_1 + 1)), (by first | rfl | (simp; done) | (simp [*]; done)), H', ⟨by have := HK1.out; omega⟩, by repeat (first | exact Drawn0.refl _ | apply Drawn0.step)⟩
       ·replace c8 := Bool.eq_false_iff.mpr c8
        subst c8
        rw [if_neg (show ¬ (false = true) by decide)] at H
        obtain rfl := Option.some.inj H
        have p553 : 0 ≤ (x5_1 : Int) := of_decide_eq_true (by first | (with_reducible assumption) | assumption)
        have q553 : x5_1 < (l0.length : Int) := of_decide_eq_true (by first | (with_reducible assumption) | assumption)
        obtain ⟨ad553, A553_0, c553_0, e553, hx553_0, hl553_0, hi553_0⟩ := at_L6 HR0.out x5_1 p553 q553
        cases e553
        have HR553_0 := Aside0.mk hi553_0
        have HC553_0 := Aside0.mk hl553_0
        clear hi553_0 hl553_0
        replace p553 := eq_true p553
        replace q553 := eq_true q553
        have p554 : 0 ≤ (x5_1 : Int) := of_decide_eq_true (by first | (with_reducible assumption) | assumption)
        have q554 : x5_1 < (l1.length : Int) := of_decide_eq_true (by first | (with_reducible assumption) | assumption)
        obtain ⟨ad554, A554_0, c554_0, e554, hx554_0, hl554_0, hi554_0⟩ := at_L6 HR1.out x5_1 p554 q554
        cases e554
        have HR554_0 := Aside0.mk hi554_0
        have HC554_0 := Aside0.mk hl554_0
        clear hi554_0 hl554_0
        replace p554 := eq_true p554
        replace q554 := eq_true q554
        go_wp2_with (first | (go_at_call 84; (with_reducible refine (laws_rInts.calls k1 _ _ (rd_L6 l0 x5_1) _ _ (rd_L6 l1 x5_1) false _ ?side1 ?side2 ?side3 ?side4 A7.out).mono ?_); (case side1 => repeat (first | exact HR553_0.out | (with_reducible refine Kd.C_alloc ?_ _) | (with_reducible refine Kd.C_drewN ?_ _) | (with_reducible refine Kd.C_drew ?_))); (case side2 => exact HC553_0.out); (case side3 => repeat (first | exact HR554_0.out | (with_reducible refine Kd.C_alloc ?_ _) | (with_reducible refine Kd.C_drewN ?_ _) | (with_reducible refine Kd.C_drew ?_))); (case side4 => exact HC554_0.out); rintro e w' ⟨rfl, ⟨nd, rfl⟩⟩; (try first | exact ⟨rfl, _, World.drewN_drewN _ _ _⟩ | exact ⟨rfl, _, Eq.trans (World.drewN_drewN _ _ _) (congrArg (World.drewN _) (Nat.add_assoc _ _ _))⟩)))
        repeat (go_quiet (first | (go_at_call 84; (with_reducible refine (laws_rInts.calls k1 _ _ (rd_L6 l0 x5_1) _ _ (rd_L6 l1 x5_1) false _ ?side1 ?side2 ?side3 ?side4 A7.out).mono ?_); (case side1 => repeat (first | exact HR553_0.out | (with_reducible refine Kd.C_alloc ?_ _) | (with_reducible refine Kd.C_drewN ?_ _) | (with_reducible refine Kd.C_drew ?_))); (case side2 => exact HC553_0.out); (case side3 => repeat (first | exact HR554_0.out | (with_reducible refine Kd.C_alloc ?_ _) | (with_reducible refine Kd.C_drewN ?_ _) | (with_reducible refine Kd.C_drew ?_))); (case side4 => exact HC554_0.out); rintro e w' ⟨rfl, ⟨nd, rfl⟩⟩; (try first | exact ⟨rfl, _, World.drewN_drewN _ _ _⟩ | exact ⟨rfl, _, Eq.trans (World.drewN_drewN _ _ _) (congrArg (World.drewN _) (Nat.add_assoc _ _ _))⟩))); try go_wp2_with (first | (go_at_call 84; (with_reducible refine (laws_rInts.calls k1 _ _ (rd_L6 l0 x5_1) _ _ (rd_L6 l1 x5_1) false _ ?side1 ?side2 ?side3 ?side4 A7.out).mono ?_); (case side1 => repeat (first | exact HR553_0.out | (with_reducible refine Kd.C_alloc ?_ _) | (with_reducible refine Kd.C_drewN ?_ _) | (with_reducible refine Kd.C_drew ?_))); (case side2 => exact HC553_0.out); (case side3 => repeat (first | exact HR554_0.out | (with_reducible refine Kd.C_alloc ?_ _) | (with_reducible refine Kd.C_drewN ?_ _) | (with_reducible refine Kd.C_drew ?_))); (case side4 => exact HC554_0.out); rintro e w' ⟨rfl, ⟨nd, rfl⟩⟩; (try first | exact ⟨rfl, _, World.drewN_drewN _ _ _⟩ | exact ⟨rfl, _, Eq.trans (World.drewN_drewN _ _ _) (congrArg (World.drewN _) (Nat.add_assoc _ _ _))⟩))))
        go_ret
        exact ⟨by first | rfl | (simp; done) | (simp [*]; done), by repeat (first | exact Drawn0.refl _ | apply Drawn0.step)⟩
      ·rw [if_neg c6] at H
       exact absurd H (by simp)
     ·rw [if_neg c5] at H
      exact absurd H (by simp)
    ·rw [if_neg c4] at H
     have c4b0 : decide (x5_1 < (l0.length : Int)) = false := decide_eq_false c4
     clear c4
     obtain rfl := Option.some.inj H
     go_wp2
     repeat (go_quiet (fail); try go_wp2)
     go_ret
     exact ⟨by first | rfl | (simp; done) | (simp [*]; done), by repeat (first | exact Drawn0.refl _ | apply Drawn0.step)⟩
 ·rw [if_neg c3] at H
  have c3b0 : ((l0.length : Int) == (l1.length : Int)) = false := beq_eq_false_iff_ne.mpr c3
  have c3b1 : ((l0.length : Int) != (l1.length : Int)) = true := bne_iff_ne.mpr c3
  have c3b2 : (l0.length == l1.length) = false := by first | simpa using c3 | (simp at c3 ⊢; omega)
  obtain rfl := Option.some.inj H
  go_enter Try.func47, Try.ntmps47
  go_wp2
  repeat (go_quiet (fail); try go_wp2)
  go_ret
  exact ⟨by first | rfl | (simp; done) | (simp [*]; done), by repeat (first | exact Drawn0.refl _ | apply Drawn0.step)⟩

end Go.Proofs.Ytembbdhhpblapaa.Q

namespace Go.Proofs.Ytembbdhhpblapaa.M
open Go Go.RowKit Go.Proofs.Ytembbdhhpblapaa.Q Go.Proofs.YtembbdhhpblapaaW.PrintWords Go.Proofs.YtembbdhhpblapaaW.PrintLast
open Go.Proofs.YtembbdhhpblapaaW.Pl (nth nth_get nth_mem range_all Ev.succ Ev.c stepI predI scanE)
open Go.Proofs.YtembbdhhpblapaaW.SL (insR isort isort_snoc isort_len isort_mem)
set_option linter.unusedSimpArgs false
set_option linter.unusedVariables false
namespace FS
open EB
theorem gcd_dvd (d : Nat) : ∀ (a b g : Int), 0 ≤ a → 0 ≤ b → b.toNat < d → impl_gcd.l0 d a b = some g → g ∣ a ∧ g ∣ b := by
  induction d with
  | zero => intro a b g _ _ h; omega
  | succ d ih =>
    intro a b g ha hb hd h
    simp only [impl_gcd.l0] at h
    by_cases hz : b = 0
    · rw [if_pos hz] at h
      injection h with h
      subst h; subst hz
      exact ⟨Int.dvd_refl _, Int.dvd_zero _⟩
    · rw [if_neg hz] at h
      have hm1 : Int.tmod a b < b := Int.tmod_lt_of_pos _ (by omega)
      have hm0 : 0 ≤ Int.tmod a b := Int.tmod_nonneg _ ha
      obtain ⟨h1, h2⟩ := ih b (Int.tmod a b) g hb hm0 (by omega) h
      refine ⟨?_, h1⟩
      have e := Int.mul_tdiv_add_tmod a b
      rw [← e]
      exact Int.dvd_add (Int.dvd_trans h1 (Int.dvd_mul_right b _)) h2
/-- A fraction in least terms. -/
theorem frac_full (x y : Int) (h0 : 0 ≤ x) (h1 : x ≤ 9223372036854775807) (h2 : 0 < y) (h3 : y ≤ 9223372036854775807) :
    ∃ p q, (Ev (fun k => impl_fraction.f k x y) (p, q)) ∧ (Ev (fun k => spec_l2Reduce.f k x y) (p, q)) ∧ 0 ≤ p ∧ p ≤ x ∧ 1 ≤ q ∧ p * y = x * q := by
  obtain ⟨g, ha, hb, hc, hd, _⟩ := gcd_run (y.toNat + 1) x y h0 (by omega) (by omega)
  have hg := hd (.inr h2)
  obtain ⟨d1, d2⟩ := gcd_dvd (y.toNat + 1) x y g h0 (by omega) (by omega) (by have := ha 0; simpa using this)
  obtain ⟨p, rfl⟩ := d1
  obtain ⟨q, rfl⟩ := d2
  have hp : 0 ≤ p := by
    rcases Int.lt_or_le p 0 with h | h
    · have := Int.mul_neg_of_pos_of_neg hg h
      omega
    · exact h
  have hq : 0 < q := by
    rcases Int.lt_or_le 0 q with h | h
    · exact h
    · have : g * q ≤ 0 := Int.mul_nonpos_of_nonneg_of_nonpos (by omega) h
      omega
  have hpx : p ≤ g * p := by
    have := Int.mul_le_mul_of_nonneg_right (show (1 : Int) ≤ g by omega) hp
    omega
  have hqx : q ≤ g * q := by
    have := Int.mul_le_mul_of_nonneg_right (show (1 : Int) ≤ g by omega) (show 0 ≤ q by omega)
    omega
  have t1 : wrap64 (Int.tdiv (g * p) g) = p := by rw [Int.mul_tdiv_cancel_left _ (by omega), w64 (by omega)]
  have t2 : wrap64 (Int.tdiv (g * q) g) = q := by rw [Int.mul_tdiv_cancel_left _ (by omega), w64 (by omega)]
  refine ⟨p, q, ⟨(g * q).toNat + 1, fun k hk => ?_⟩, ⟨(g * q).toNat + 1, fun k hk => ?_⟩, hp, hpx, by omega, by rw [Int.mul_comm g p, Int.mul_assoc]⟩
  · obtain ⟨j, rfl⟩ : ∃ j, k = (g * q).toNat + 1 + j := ⟨k - ((g * q).toNat + 1), by omega⟩
    show impl_fraction.f _ _ _ = _
    unfold impl_fraction.f impl_abs.f
    rw [w64 (x := -(g * p)) (by omega)]
    have : mx (g * p) (-(g * p)) = g * p := by unfold mx; omega
    simp only [Option.bind_some, this]
    unfold impl_gcd.f
    rw [ha]
    simp only [Option.bind_some]
    rw [if_neg (by omega), t1, t2]
  · obtain ⟨j, rfl⟩ : ∃ j, k = (g * q).toNat + 1 + j := ⟨k - ((g * q).toNat + 1), by omega⟩
    show spec_l2Reduce.f _ _ _ = _
    unfold spec_l2Reduce.f spec_l1Most.f
    rw [w64 (x := -(g * p)) (by omega)]
    by_cases h : g * p > -(g * p)
    · rw [if_pos h]; simp only [Option.bind_some]; rw [hb, if_neg (by omega), t1, t2]
    · have e : g * p = 0 := by omega
      have e2 : -(g * p) = g * p := by omega
      rw [if_neg h]; simp only [Option.bind_some]
      rw [e2, hb, if_neg (by omega), t1, t2]
/-- B p / q = B x / y if p y = x q. -/
theorem quo_eq {B p q x y : Int} (hB : 0 ≤ B) (hp : 0 ≤ p) (hx : 0 ≤ x) (hq : 0 < q) (hy : 0 < y) (h : p * y = x * q) : Int.tdiv (B * p) q = Int.tdiv (B * x) y := by
  have n1 : 0 ≤ B * p := Int.mul_nonneg hB hp
  have n2 : 0 ≤ B * x := Int.mul_nonneg hB hx
  rw [Int.tdiv_eq_ediv_of_nonneg n1, Int.tdiv_eq_ediv_of_nonneg n2]
  have e1 : (B * p) / q = (B * p * y) / (q * y) := (Int.mul_ediv_mul_of_pos_left _ _ hy).symm
  have e2 : (B * x) / y = (B * x * q) / (y * q) := (Int.mul_ediv_mul_of_pos_left _ _ hq).symm
  rw [e1, e2, Int.mul_assoc, h, ← Int.mul_assoc, Int.mul_comm q y]
/-- What RatioOf answers of a valid sale. -/
structure Rat (x : S40) (p q : Int) : Prop where
  run : Ev (fun k => impl_RatioOf.f k x.f0 x.f1.f0 x.f1.f1 x.f1.f2 x.f1.f3 x.f1.f4 x.f2) (p, q, true)
  p0 : 0 ≤ p
  p1 : p ≤ 100000000
  q1 : 1 ≤ q
  eq : p * bAx x.f1 = x.f2 * q
theorem rat_ok {x : S40} (h : okSx x = true) : ∃ p q, Rat x p q := by
  obtain ⟨_, h1, h2, h3⟩ := okS_iff.1 h
  have hb := bA_bd x.f1.f4 h1
  obtain ⟨p, q, g1, _, g2, g3, g4, g5⟩ := frac_full x.f2 (bA x.f1.f0 x.f1.f1 x.f1.f4) (by omega) (by omega) (by omega) (by omega)
  refine ⟨p, q, ?_, g2, by omega, g4, g5⟩
  unfold impl_RatioOf.f
  have h' : okS x.f0 x.f1.f0 x.f1.f1 x.f1.f2 x.f1.f3 x.f2 = true := h
  simp only [iSale, h', if_true, iBase x.f1.f4 h1, Option.bind_some]
  exact Ev.bind g1 (Ev.now _)
theorem ratBoth (y a b c d : Int) (e : Bool) (n : Int) : ∃ p q t, Ev (fun k => impl_RatioOf.f k y a b c d e n) (p, q, t) ∧ Ev (fun k => spec_RatioOf.f k y a b c d e n) (p, q, t) := by
  unfold impl_RatioOf.f spec_RatioOf.f
  simp only [iSale, sSale, Option.bind_some]
  by_cases h : okS y a b c d n = true
  · obtain ⟨_, h1, h2, h3⟩ := okS_iff.1 h
    have hb := bA_bd e h1
    obtain ⟨p, q, g1, g2, _⟩ := frac_full n (bA a b e) (by omega) (by omega) (by omega) (by omega)
    refine ⟨p, q, true, ?_, ?_⟩
    · simp only [h, if_true, iBase e h1, Option.bind_some]
      exact Ev.bind g1 (Ev.now _)
    · simp only [h, if_true, sBase e h1, Option.bind_some]
      exact Ev.bind g2 (Ev.now _)
  · refine ⟨0, 0, false, ?_, ?_⟩
    · simp only [if_neg h]; exact Ev.now _
    · simp only [if_neg h]; exact Ev.now _
/-- The estimate by sale x. -/
def qB (a : S25) (x : S40) : Int := Int.tdiv (bAx a * x.f2) (bAx x.f1)
def lowB (a : S25) (n : Int) (x : S40) : Bool := alS a x && decide (qB a x ≤ n)
def highB (a : S25) (n : Int) (x : S40) : Bool := alS a x && decide (qB a x ≥ n)
theorem rat_q {a : S25} {x : S40} {p q : Int} (ha : okAx a = true) (hx : okSx x = true) (h : Rat x p q) : Int.tdiv (bAx a * p) q = qB a x ∧ 0 ≤ bAx a * p ∧ bAx a * p ≤ 24000000000000000 := by
  obtain ⟨_, h1, h2, h3⟩ := okS_iff.1 hx
  have hb := bA_bd x.f1.f4 h1
  have hb2 := bA_bd a.f4 ha
  refine ⟨quo_eq (by unfold bAx; omega) h.p0 (by omega) (by have := h.q1; omega) (by unfold bAx; omega) h.eq, ?_⟩
  exact mul_b (a := bAx a) (b := p) (A := 240000000) (B := 100000000) (by unfold bAx; omega) (by unfold bAx; omega) h.p0 h.p1
/-- Some sale up to i. -/
def anyS (f : S40 → Bool) (l : List S40) (i : Nat) : Bool := (l.take i).any f
theorem anyS_succ (f : S40 → Bool) (l : List S40) (i : Nat) (h : i < l.length) : anyS f l (i + 1) = (anyS f l i || f (nth l i z40)) := by
  unfold anyS
  rw [List.take_succ_eq_append_getElem h, List.any_append, nth_get h]
  simp
theorem anyS_all (f : S40 → Bool) (l : List S40) {x : S40} (hx : x ∈ l) (h : f x = true) : anyS f l l.length = true := by
  unfold anyS
  rw [List.take_length, List.any_eq_true]
  exact ⟨x, hx, h⟩
theorem est_some {l : List S40} {a : S25} (h : (estF l a).2 = true) : goodS l = true ∧ okAx a = true ∧ ∃ x, x ∈ l ∧ alS a x = true ∧ (estF l a).1 = qB a x := by
  unfold estF at h ⊢
  by_cases hg : (goodS l && okAx a) = true
  · rw [if_pos hg] at h ⊢
    rw [Bool.and_eq_true] at hg
    by_cases h0 : (nearS l a).length = 0
    · rw [if_pos h0] at h; cases h
    · rw [if_neg h0]
      have hm := med_mem h0
      exact ⟨hg.1, hg.2, medS l a, near_mem hm, (List.mem_filter.1 (isort_mem hm)).2, rfl⟩
  · rw [if_neg hg] at h; cases h
theorem low_all {l : List S40} {a : S25} (h : (estF l a).2 = true) : anyS (lowB a (estF l a).1) l l.length = true ∧ anyS (highB a (estF l a).1) l l.length = true := by
  obtain ⟨_, _, x, hx, h1, h2⟩ := est_some h
  refine ⟨anyS_all _ _ hx ?_, anyS_all _ _ hx ?_⟩
  · unfold lowB; rw [h1, h2]; simp
  · unfold highB; rw [h1, h2]; simp
theorem alikeR {a : S25} {x : S40} (hx : okSx x = true) (ha : okAx a = true) : impl_Alike.f x.f1.f0 x.f1.f1 x.f1.f2 x.f1.f3 x.f1.f4 a.f0 a.f1 a.f2 a.f3 a.f4 = some (alS a x, true) := by
  obtain ⟨_, h1, _⟩ := okS_iff.1 hx
  unfold impl_Alike.f
  rw [iIsA, iIsA, Option.bind_some, h1, if_pos rfl, Option.bind_some, show okA a.f0 a.f1 a.f2 a.f3 = true from ha, if_pos rfl, iAlike _ _ h1 ha]
  rfl
/-! ### the means -/
/-- Is the year among the first numbers of some rows? -/
def hasY (q : List (List Int)) (y : Int) (i : Nat) : Bool := (q.take i).any (fun r => r.getD 0 0 == y)
theorem hasY_succ (q : List (List Int)) (y : Int) (i : Nat) (h : i < q.length) : hasY q y (i + 1) = (hasY q y i || ((nth q i []).getD 0 0 == y)) := by
  unfold hasY
  rw [List.take_succ_eq_append_getElem h, List.any_append, nth_get h]
  simp
theorem hasY_all {q : List (List Int)} {y : Int} {r : List Int} (hr : r ∈ q) (h : r.getD 0 0 = y) : hasY q y q.length = true := by
  unfold hasY
  rw [List.take_length, List.any_eq_true]
  exact ⟨r, hr, by simpa using h⟩
def YQ (l : List S40) (q : List (List Int) × Bool) : Prop := q.2 = true → ∀ i, i < l.length → ∃ r, r ∈ q.1 ∧ r.getD 0 0 = (nth l i z40).f0
theorem yearHas (l : List S40) (hl : l.length ≤ 10) (hC : ∀ i, i < l.length → 1 ≤ (nth l i z40).f2 ∧ (nth l i z40).f2 ≤ 100000000) :
    ∀ d (i : Nat) (s : List (List Int)), l.length - i ≤ d → i ≤ l.length → (∀ j, j < i → ∃ r, r ∈ s ∧ r.getD 0 0 = (nth l j z40).f0) → s.length ≤ i →
    ∃ q : List (List Int) × Bool, (q.2 = true ∧ YQ l q) ∧ Ev (fun k => impl_YearMeans.l0 k l s (i : Int)) q := by
  intro d
  induction d with
  | zero =>
    intro i s hd hi hs hn
    obtain rfl : i = l.length := by omega
    refine ⟨(s, true), ⟨rfl, fun _ => hs⟩, Ev.succ ?_⟩
    simp only [impl_YearMeans.l0, if_neg (show ¬ ((l.length : Int) < (l.length : Int)) by omega)]
    exact Ev.now _
  | succ d ih =>
    intro i s hd hi hs hn
    by_cases hil : i < l.length
    case neg =>
      obtain rfl : i = l.length := by omega
      refine ⟨(s, true), ⟨rfl, fun _ => hs⟩, Ev.succ ?_⟩
      simp only [impl_YearMeans.l0, if_neg (show ¬ ((l.length : Int) < (l.length : Int)) by omega)]
      exact Ev.now _
    obtain ⟨e, e1, e2, e3, e4⟩ := runEnd l i hil
    have hsum := sumC_b hC i (e - i) (by omega)
    obtain ⟨a, b, hf⟩ := frac_run (sumC l i (e - i)) ((e - i : Nat) : Int) (by omega) (by omega) (by omega)
    have hfi : Ev (fun k => impl_fraction.f k (sumC l i (e - i)) ((e - i : Nat) : Int)) (a, b) := ⟨((e - i : Nat) : Int).toNat + 1, fun k hk => by
      have := (hf (k - (((e - i : Nat) : Int).toNat + 1))).2
      rwa [Nat.add_sub_cancel' hk] at this⟩
    obtain ⟨q, hq, g2⟩ := ih e (s ++ [[(nth l i z40).f0, a, b]]) (by omega) e2 (fun j hj => by
      by_cases hji : j < i
      · obtain ⟨r, h1, h2⟩ := hs j hji
        exact ⟨r, List.mem_append_left _ h1, h2⟩
      · exact ⟨_, List.mem_append_right _ (List.mem_singleton.2 rfl), (e3 j (by omega) hj).symm⟩) (by simp; omega)
    refine ⟨q, hq, ?_⟩
    have hloop : ∀ c (k : Nat), e - k = c → i ≤ k → k ≤ e → Ev (fun f => impl_YearMeans.l1 f l s (i : Int) (sumC l i (k - i)) (k : Int)) q := by
      intro c
      induction c with
      | zero =>
        intro k h1 h2 h3
        obtain rfl : k = e := by omega
        have hw : wrap64 ((k : Int) - (i : Int)) = ((k - i : Nat) : Int) := by rw [w64 (by omega)]; omega
        refine Ev.succ ?_
        by_cases hel : k < l.length
        · have hne : (nth l k z40).f0 ≠ (nth l i z40).f0 := by
            rcases e4 with h | h
            · omega
            · exact h
          simp only [impl_YearMeans.l1, rd40, if_pos (show (k : Int) < (l.length : Int) by omega), if_pos (show (0 : Int) ≤ (k : Int) by omega), if_pos (show (0 : Int) ≤ (i : Int) by omega), if_pos (show (i : Int) < (l.length : Int) by omega), if_neg hne, hw]
          refine Ev.bind hfi ?_
          simp only [if_pos (show s.length < 5864062014805 by omega)]
          exact g2
        · simp only [impl_YearMeans.l1, rd40, if_neg (show ¬ (k : Int) < (l.length : Int) by omega), hw]
          refine Ev.bind hfi ?_
          simp only [if_pos (show (0 : Int) ≤ (i : Int) by omega), if_pos (show (i : Int) < (l.length : Int) by omega), if_pos (show s.length < 5864062014805 by omega)]
          exact g2
      | succ c ihc =>
        intro k h1 h2 h3
        have hnext := ihc (k + 1) (by omega) (by omega) (by omega)
        have hb1 := sumC_b hC i (k - i) (by omega)
        have hc := hC k (by omega)
        rw [show k + 1 - i = (k - i) + 1 by omega, sumC, show i + (k - i) = k by omega] at hnext
        refine Ev.succ ?_
        simp only [impl_YearMeans.l1, rd40, if_pos (show (k : Int) < (l.length : Int) by omega), if_pos (show (0 : Int) ≤ (k : Int) by omega), if_pos (show (0 : Int) ≤ (i : Int) by omega), if_pos (show (i : Int) < (l.length : Int) by omega), if_pos (e3 k h2 (by omega)), w64 (x := sumC l i (k - i) + (nth l k z40).f2) (by omega), stepI k (by omega)]
        exact hnext
    have h0 := hloop (e - i) i rfl (Nat.le_refl _) (by omega)
    rw [Nat.sub_self] at h0
    refine Ev.succ ?_
    simp only [impl_YearMeans.l0, if_pos (show (i : Int) < (l.length : Int) by omega)]
    exact h0
theorem Ev_one {α : Type} {f : Nat → Option α} {p q : α} (h : Ev f p) (h' : Ev f q) : p = q := by
  obtain ⟨k, hk⟩ := h
  obtain ⟨j, hj⟩ := h'
  have e1 := hk (max k j) (by omega)
  have e2 := hj (max k j) (by omega)
  rw [e1] at e2
  exact Option.some.inj e2
/-- What both answer, and of what it speaks. -/
theorem yearAll (l : List S40) (hl : l.length ≤ 1048576) : ∃ q : List (List Int), yearsQ (q, goodS l) ∧ Ev (fun k => spec_YearMeans.f k l) (q, goodS l) ∧ Ev (fun k => impl_YearMeans.f k l) (q, goodS l) ∧ YQ l (q, goodS l) := by
  obtain ⟨q, hq, h1, h2⟩ := yearBoth l hl
  have hmain : ∃ q', q'.2 = goodS l ∧ YQ l q' ∧ Ev (fun k => impl_YearMeans.f k l) q' := by
    unfold impl_YearMeans.f
    cases hg : goodS l with
    | true =>
      obtain ⟨b1, b2, b3⟩ := goodS_at hg
      obtain ⟨q', ⟨ht, hq'⟩, g⟩ := yearHas l b1 (fun i hi => okSx_cents (b2 i hi)) l.length 0 [] (by omega) (by omega) (fun j hj => absurd hj (by omega)) (by simp)
      refine ⟨q', ht, hq', Ev.bind (iGoodE l hl) ?_⟩
      simp only [hg, if_true]
      exact g
    | false =>
      refine ⟨([], false), rfl, fun h => (by cases h), Ev.bind (iGoodE l hl) ?_⟩
      simp only [hg, Bool.false_eq_true, if_false]
      exact Ev.now _
  obtain ⟨q', e, y, g⟩ := hmain
  obtain rfl := Ev_one h2 g
  obtain ⟨q1, q2⟩ := q
  dsimp only at e
  subst e
  exact ⟨q1, hq, h1, h2, y⟩
theorem rdL6 (l : List (List Int)) (i : Nat) : rd_L6 l (i : Int) = nth l i [] := by unfold rd_L6 nth; simp
theorem intsE (l : List Int) (hm : l.length ≤ 1048576) : Ev (fun k => laws_rInts.f k l l) true := by
  unfold laws_rInts.f
  simp only [if_true]
  have h := scanE l.length (fun _ => true) true false (fun k i => laws_rInts.l0 k l l i) ?hs ?hb ?he
  case hs =>
    intro i r hi _ hr
    refine Ev.succ ?_
    simp only [laws_rInts.l0, if_pos (show (i : Int) < (l.length : Int) by omega), if_pos (show (0 : Int) ≤ (i : Int) by omega), if_true, stepI i (by omega)]
    exact hr
  case hb => intro i _ h; cases h
  case he =>
    refine Ev.succ ?_
    simp only [laws_rInts.l0, if_neg (show ¬ ((l.length : Int) < (l.length : Int)) by omega)]
    exact Ev.now _
  simpa using h
theorem tableE (xs : List (List Int)) (hn : xs.length ≤ 1048576) (hm : ∀ i, i < xs.length → (nth xs i []).length ≤ 1048576) : Ev (fun k => laws_rTable.f k xs xs) true := by
  unfold laws_rTable.f
  simp only [if_true]
  have main : ∀ d (i : Nat), xs.length - i = d → i ≤ xs.length → Ev (fun k => laws_rTable.l0 k xs xs (i : Int)) true := by
    intro d
    induction d with
    | zero =>
      intro i hd hi
      obtain rfl : i = xs.length := by omega
      refine Ev.succ ?_
      simp only [laws_rTable.l0, if_neg (show ¬ ((xs.length : Int) < (xs.length : Int)) by omega)]
      exact Ev.now _
    | succ d ih =>
      intro i hd hi
      refine Ev.succ ?_
      simp only [laws_rTable.l0, rdL6, if_pos (show (i : Int) < (xs.length : Int) by omega), if_pos (show (0 : Int) ≤ (i : Int) by omega)]
      refine Ev.bind (intsE _ (hm i (by omega))) ?_
      simp only [if_true, stepI i (by omega)]
      exact ih (i + 1) (by omega) (by omega)
  exact main xs.length 0 (by omega) (by omega)
theorem hasE (x y : Int) : Ev (fun k => laws_rHas.f k [x] y) (x == y) := by
  unfold laws_rHas.f
  refine Ev.succ ?_
  have h1 : rd [x] 0 = x := by simp [rd]
  have h2 : wrap64 ((0 : Int) + 1) = 1 := w64 (by omega)
  simp only [laws_rHas.l0, h1, h2, if_pos (show (0 : Int) < (([x] : List Int).length : Int) by simp), if_pos (show (0 : Int) ≤ 0 by omega)]
  by_cases h : x = y
  · simp only [if_pos h]
    rw [show (x == y) = true by simpa using h]
    exact Ev.now _
  · simp only [if_neg h]
    rw [show (x == y) = false by simpa using h]
    refine Ev.succ ?_
    simp only [laws_rHas.l0, if_neg (show ¬ (1 : Int) < (([x] : List Int).length : Int) by simp)]
    exact Ev.now _
end FS
end Go.Proofs.Ytembbdhhpblapaa.M

