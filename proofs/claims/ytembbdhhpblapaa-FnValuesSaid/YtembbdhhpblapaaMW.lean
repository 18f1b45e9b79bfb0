/- A better grade never has a smaller value, being alike is mutual, and without cost the best grade is the aim or nothing is gained: for every code that is drawn from. -/
import Derived.Test.YtembbdhhpblapaaSLM
import Derived.Test.YtembbdhhpblapaaMV
import Derived.KernelRfl
import Derived.Test.YtembbdhhpblapaaQx16
import Derived.Test.YtembbdhhpblapaaQx17
import Derived.Test.YtembbdhhpblapaaQx18
import Derived.Test.YtembbdhhpblapaaQx19
import Derived.Test.YtembbdhhpblapaaQx20
import Derived.Test.YtembbdhhpblapaaQx21
import Derived.Test.YtembbdhhpblapaaQx22
import Derived.Test.YtembbdhhpblapaaQx23
import Derived.Test.YtembbdhhpblapaaQx24
import Derived.Test.YtembbdhhpblapaaQx34
import Derived.Test.YtembbdhhpblapaaQx35
import Derived.Test.YtembbdhhpblapaaQx36
import Derived.Test.YtembbdhhpblapaaQx8888801
namespace Go.Proofs.Ytembbdhhpblapaa.FV
open Go Go.RowKit Go.Proofs.Ytembbdhhpblapaa.Q Go.Proofs.Ytembbdhhpblapaa.M Go.Proofs.YtembbdhhpblapaaW.PrintWords Go.Proofs.YtembbdhhpblapaaW.Pl Go.Proofs.YtembbdhhpblapaaW.SL
set_option linter.unusedSimpArgs false
set_option linter.unusedVariables false
set_option maxRecDepth 100000
theorem agg25 : AggT Try.prog 25 5 := ⟨by kernel_rfl⟩
theorem sz25 : SzT Try.prog 25 5 := ⟨by kernel_rfl⟩
theorem sz3 : SzT Try.prog 3 1 := ⟨by kernel_rfl⟩
theorem sc3 : ScT Try.prog 3 := ⟨by kernel_rfl⟩
theorem fld25_3 : FldT Try.prog 25 3 3 := ⟨by kernel_rfl⟩
theorem zero25 : ZeroT Try.prog 25 [.int .i64 0, .int .i64 0, .int .i64 0, .int .i64 0, .bool false] := ⟨by kernel_rfl⟩
theorem en33 : Ent Try.prog 33 := ⟨enters_of Try.func33 (by kernel_rfl) rfl⟩
theorem en34 : Ent Try.prog 34 := ⟨enters_of Try.func34 (by kernel_rfl) rfl⟩
theorem en22 : Ent Try.prog 22 := ⟨enters_of Try.func22 (by kernel_rfl) rfl⟩
theorem en21 : Ent Try.prog 21 := ⟨enters_of Try.func21 (by kernel_rfl) rfl⟩
theorem en16 : Ent Try.prog 16 := ⟨enters_of Try.func16 (by kernel_rfl) rfl⟩
theorem en20 : Ent Try.prog 20 := ⟨enters_of Try.func20 (by kernel_rfl) rfl⟩
theorem en19 : Ent Try.prog 19 := ⟨enters_of Try.func19 (by kernel_rfl) rfl⟩
theorem en35 : Ent Try.prog 35 := ⟨enters_of Try.func35 (by kernel_rfl) rfl⟩
theorem en18 : Ent Try.prog 18 := ⟨enters_of Try.func18 (by kernel_rfl) rfl⟩
theorem en17 : Ent Try.prog 17 := ⟨enters_of Try.func17 (by kernel_rfl) rfl⟩
theorem en36 : Ent Try.prog 36 := ⟨enters_of Try.func36 (by kernel_rfl) rfl⟩
theorem en24 : Ent Try.prog 24 := ⟨enters_of Try.func24 (by kernel_rfl) rfl⟩
theorem en23 : Ent Try.prog 23 := ⟨enters_of Try.func23 (by kernel_rfl) rfl⟩
theorem walkB (l0 : List Int) (A0 : Option Addr) (c0 : Nat) (w : World) (hr0 : Kd.C (Kd.int .u8) w A0 l0.length l0) (hc0 : l0.length ≤ c0) (hb : laws_rBig.f l0 = some true) : Calls Try.prog 10 #[.slice A0 l0.length c0] w fun e w' => e = .returned (.bool true) ∧ Below w.heap.size w w' := by
  refine enterW (args := [.slice A0 l0.length c0]) [fun w => Kd.C (Kd.int .u8) w A0 l0.length l0] (fun p hp W hb => by
    rw [List.mem_singleton.1 hp]; exact Kd.C_below hr0 hb) Try.func10 rfl rfl ?_
  repeat (first
    | refine Jl.yd (Y.mv rfl rfl) rfl rfl rfl ?_
    | refine Jl.yd (Y.asg rfl rfl) rfl rfl rfl ?_
    | refine Jl.yd (Y.ext rfl rfl rfl) rfl rfl rfl ?_
    | refine Jl.yd (Y.pickT rfl rfl rfl) rfl rfl rfl ?_
    | refine Jl.yd (Y.pickF rfl rfl rfl) rfl rfl rfl ?_
    | refine Jl.off rfl rfl rfl ?_
    | refine Jl.yd (Y.cmpF rfl rfl rfl rfl (by omega)) rfl rfl rfl ?_
    | refine Jl.yd (Y.cmpT rfl rfl rfl rfl (by omega)) rfl rfl rfl ?_
    | refine Jl.yd (Y.neqB rfl rfl rfl Try.underlying4) rfl rfl rfl ?_
    | refine Jl.yd (Y.cmp rfl rfl rfl rfl) rfl rfl rfl ?_
    | refine Jl.yd (Y.not rfl rfl) rfl rfl rfl ?_
    | refine Jl.yd (Y.arithN rfl rfl rfl rfl (by omega)) rfl rfl rfl ?_
    | refine Jl.yd (Y.arith64 rfl rfl rfl rfl) rfl rfl rfl ?_
    | refine Jl.call1 (v := .bool true) rfl rfl rfl rfl en33 rfl (fun w hW => by with_reducible exact (laws_rBig.calls _ _ _ _ w (hW.at 0 rfl) hc0 hb).mono (fun _ _ hh => ⟨hh.1, hh.2.below⟩)) ?_
    | refine Cj.ret rfl (Ej.out1 (P := Try.prog) (fn := Try.f10) (R := fun e w' => e = .returned (.bool true) ∧ Below w.heap.size w w') (fun _ _ h => h) rfl rfl (fun w hW => ⟨rfl, hW.below⟩))
    | refine Jl.splitG rfl rfl (fun h => ?_) (fun h => ?_)
    | refine Jl.nil (Ej.go ?_ (fun _ _ h => h))
    | (refine Jl.nil (Ej.back (fun _ _ h => h) (by repeat (first | exact .refl | apply DropTo.tail)) ?_); repeat (first | exact trivial | refine ⟨rfl, ?_⟩))
    | refine Cj.condF rfl rfl (Cj.skip rfl (Ej.go ?_ (fun _ _ h => h)))
    | (refine Cj.condF rfl rfl (Cj.skip rfl (Ej.back (fun _ _ h => h) (by repeat (first | exact .refl | apply DropTo.tail)) ?_)); repeat (first | exact trivial | refine ⟨rfl, ?_⟩))
    | refine Cj.condT rfl rfl ?_
    | refine Cj.cond rfl rfl (fun h => ?_) (fun h => ?_)
    | refine Cj.skip rfl (Ej.go ?_ (fun _ _ h => h))
    | (refine Cj.skip rfl (Ej.back (fun _ _ h => h) (by repeat (first | exact .refl | apply DropTo.tail)) ?_); repeat (first | exact trivial | refine ⟨rfl, ?_⟩))
    | refine Cj.seq rfl ?_
    | refine Cj.region rfl ?_)
set_option maxHeartbeats 4000000 in
theorem walk (l0 : List Int) (A0 : Option Addr) (c0 : Nat) (w : World) (hr0 : Kd.C (Kd.int .u8) w A0 l0.length l0) (hc0 : l0.length ≤ c0) (hb : laws_rBig.f l0 = some false)
    (a b c d : Int) (e : Bool) (hV : spec_DrawValueOf.f l0 = some (a, b, c, d, e)) (v : Int) (ok : Bool) (h1 : impl_ValueOf.f a b c d e = some (v, ok)) (h2 : spec_ValueOf.f a b c d e = some (v, ok)) (h3 : impl_IsAppraisal.f a b c d e = some ok)
    (v' : Int) (ok' : Bool) (h4 : impl_ValueOf.f a b c (wrap64 (d - 1)) e = some (v', ok')) (hlt : ok = true → ok' = true → ¬ v' < v)
    (bs : Int) (okb : Bool) (h5 : impl_BaseOf.f a b c d e = some (bs, okb)) (h6 : spec_BaseOf.f a b c d e = some (bs, okb))
    (a1 b1 c1 d1 : Int) (e1 : Bool) (a2 b2 c2 d2 : Int) (e2 : Bool) (hA : spec_DrawAlike.f l0 = some (a1, b1, c1, d1, e1, a2, b2, c2, d2, e2)) (al tl : Bool)
    (h7 : impl_Alike.f a1 b1 c1 d1 e1 a2 b2 c2 d2 e2 = some (al, tl)) (h8 : impl_Alike.f a2 b2 c2 d2 e2 a1 b1 c1 d1 e1 = some (al, tl)) (h9 : spec_Alike.f a1 b1 c1 d1 e1 a2 b2 c2 d2 e2 = some (al, tl))
    (a3 b3 c3 d3 : Int) (e3 : Bool) (m : Int) (hG : spec_DrawAfterGrade.f l0 = some (a3, b3, c3, d3, e3, m)) (g3 : Int) (kn : Bool) (k1 k2 k3 : Nat) (h10 : impl_AfterGrade.f k1 a3 b3 c3 d3 e3 m = some (g3, kn)) (h11 : spec_AfterGrade.f k2 a3 b3 c3 d3 e3 m = some (g3, kn)) (v3 v4 : Int)
    (hk : kn = true → impl_ValueOf.f a3 b3 c3 d3 e3 = some (v3, true) ∧ impl_ValueOf.f a3 b3 c3 g3 e3 = some (v4, true) ∧ impl_AfterGrade.f k3 a3 b3 c3 d3 e3 0 = some (1, true) ∧ 1 ≤ g3 ∧ g3 ≤ d3 ∧ ¬ wrap64 (v4 - wrap64 (m * wrap64 (d3 - g3))) < v3) :
    Calls Try.prog 10 #[.slice A0 l0.length c0] w fun e w' => e = .returned (.bool true) ∧ Below w.heap.size w w' := by
  refine enterW (args := [.slice A0 l0.length c0]) [fun w => Kd.C (Kd.int .u8) w A0 l0.length l0] (fun p hp W hb => by
    rw [List.mem_singleton.1 hp]; exact Kd.C_below hr0 hb) Try.func10 rfl rfl ?_
  repeat (first
    | refine Jl.yd (Y.mv rfl rfl) rfl rfl rfl ?_
    | refine Jl.yd (Y.asg rfl rfl) rfl rfl rfl ?_
    | refine Jl.yd (Y.ext rfl rfl rfl) rfl rfl rfl ?_
    | refine Jl.yd (Y.pickT rfl rfl rfl) rfl rfl rfl ?_
    | refine Jl.yd (Y.pickF rfl rfl rfl) rfl rfl rfl ?_
    | refine Jl.off rfl rfl rfl ?_
    | refine Jl.yd (Y.cmpF rfl rfl rfl rfl (by first | omega | exact hlt ‹_› ‹_› | (have := (hk ‹kn = true›).2.2.2; omega))) rfl rfl rfl ?_
    | refine Jl.yd (Y.cmpT rfl rfl rfl rfl (by first | omega | exact hlt ‹_› ‹_› | (have := (hk ‹kn = true›).2.2.2; omega))) rfl rfl rfl ?_
    | refine Jl.yd (Y.neqB rfl rfl rfl Try.underlying4) rfl rfl rfl ?_
    | refine Jl.yd (Y.cmp rfl rfl rfl rfl) rfl rfl rfl ?_
    | refine Jl.yd (Y.not rfl rfl) rfl rfl rfl ?_
    | refine Jl.yd (Y.arithN rfl rfl rfl rfl (by omega)) rfl rfl rfl ?_
    | refine Jl.yd (Y.arith64 rfl rfl rfl rfl) rfl rfl rfl ?_
    | refine Jl.yd (Y.loadA rfl rfl agg25 (by repeat (first | exact .head _ | refine .tail _ ?_)) (by rfl)) rfl rfl rfl ?_
    | refine Jl.yd (Y.load1 rfl rfl sc3 (by repeat (first | exact .head _ | refine .tail _ ?_)) (by rfl)) rfl rfl rfl ?_
    | refine Jl.yd (Y.fld0 rfl rfl fld25_3) rfl rfl rfl ?_
    | refine Jl.alloc rfl rfl rfl rfl zero25 (fun g => ?_)
    | refine Jl.storeA rfl rfl rfl rfl rfl sz25 (by repeat (first | exact .z | apply SetAt.s)) (by rfl) (by rfl) ?_
    | refine Jl.store1 rfl rfl rfl rfl rfl sz3 rfl (by repeat (first | exact .head _ | refine .tail _ ?_)) (by repeat (first | exact .z | apply PutAt.s)) (by repeat (first | exact .z | apply SetAt.s)) ?_
    | refine Jl.call1 (v := .bool false) rfl rfl rfl rfl en33 rfl (fun w hW => by with_reducible exact (laws_rBig.calls _ _ _ _ w (hW.at 0 rfl) hc0 hb).mono (fun _ _ hh => ⟨hh.1, hh.2.below⟩)) ?_
    | refine Jl.call1 (v := .agg #[.int .i64 a, .int .i64 b, .int .i64 c, .int .i64 d, .bool e]) rfl rfl rfl rfl en34 rfl (fun w hW => by with_reducible exact spec_DrawValueOf.calls _ _ _ _ _ _ _ _ w (hW.at 0 rfl) hc0 hV) ?_
    | refine Jl.call1 (v := .tuple #[.int .i64 v, .bool ok]) rfl rfl rfl rfl en22 rfl (fun w hW => by with_reducible exact impl_ValueOf.calls a b c d e _ _ w h1) ?_
    | refine Jl.call1 (v := .tuple #[.int .i64 v, .bool ok]) rfl rfl rfl rfl en21 rfl (fun w hW => by with_reducible exact spec_ValueOf.calls a b c d e _ _ w h2) ?_
    | refine Jl.call1 (v := .bool ok) rfl rfl rfl rfl en16 rfl (fun w hW => by with_reducible exact impl_IsAppraisal.calls a b c d e _ w h3) ?_
    | refine Jl.call1 (v := .tuple #[.int .i64 v', .bool ok']) rfl rfl rfl rfl en22 rfl (fun w hW => by with_reducible exact impl_ValueOf.calls a b c (wrap64 (d - 1)) e _ _ w h4) ?_
    | refine Jl.call1 (v := .tuple #[.int .i64 bs, .bool okb]) rfl rfl rfl rfl en20 rfl (fun w hW => by with_reducible exact impl_BaseOf.calls a b c d e _ _ w h5) ?_
    | refine Jl.call1 (v := .tuple #[.int .i64 bs, .bool okb]) rfl rfl rfl rfl en19 rfl (fun w hW => by with_reducible exact spec_BaseOf.calls a b c d e _ _ w h6) ?_
    | refine Jl.call1 (v := .tuple #[.agg #[.int .i64 a1, .int .i64 b1, .int .i64 c1, .int .i64 d1, .bool e1], .agg #[.int .i64 a2, .int .i64 b2, .int .i64 c2, .int .i64 d2, .bool e2]]) rfl rfl rfl rfl en35 rfl (fun w hW => by with_reducible exact spec_DrawAlike.calls _ _ _ _ _ _ _ _ _ _ _ _ _ w (hW.at 0 rfl) hc0 hA) ?_
    | refine Jl.call1 (v := .tuple #[.bool al, .bool tl]) rfl rfl rfl rfl en18 rfl (fun w hW => by with_reducible exact impl_Alike.calls a1 b1 c1 d1 e1 a2 b2 c2 d2 e2 _ _ w h7) ?_
    | refine Jl.call1 (v := .tuple #[.bool al, .bool tl]) rfl rfl rfl rfl en18 rfl (fun w hW => by with_reducible exact impl_Alike.calls a2 b2 c2 d2 e2 a1 b1 c1 d1 e1 _ _ w h8) ?_
    | refine Jl.call1 (v := .tuple #[.bool al, .bool tl]) rfl rfl rfl rfl en17 rfl (fun w hW => by with_reducible exact spec_Alike.calls a1 b1 c1 d1 e1 a2 b2 c2 d2 e2 _ _ w h9) ?_
    | refine Jl.call1 (v := .tuple #[.agg #[.int .i64 a3, .int .i64 b3, .int .i64 c3, .int .i64 d3, .bool e3], .int .i64 m]) rfl rfl rfl rfl en36 rfl (fun w hW => by with_reducible exact spec_DrawAfterGrade.calls _ _ _ _ _ _ _ _ _ w (hW.at 0 rfl) hc0 hG) ?_
    | refine Jl.call1 (v := .tuple #[.int .i64 g3, .bool kn]) rfl rfl rfl rfl en24 rfl (fun w hW => by with_reducible exact impl_AfterGrade.calls k1 a3 b3 c3 d3 e3 m _ _ w h10) ?_
    | refine Jl.call1 (v := .tuple #[.int .i64 g3, .bool kn]) rfl rfl rfl rfl en23 rfl (fun w hW => by with_reducible exact spec_AfterGrade.calls k2 a3 b3 c3 d3 e3 m _ _ w h11) ?_
    | refine Jl.call1 (v := .tuple #[.int .i64 v3, .bool true]) rfl rfl rfl rfl en22 rfl (fun w hW => by with_reducible exact impl_ValueOf.calls a3 b3 c3 d3 e3 _ _ w (hk ‹kn = true›).1) ?_
    | refine Jl.call1 (v := .tuple #[.int .i64 v4, .bool true]) rfl rfl rfl rfl en22 rfl (fun w hW => by with_reducible exact impl_ValueOf.calls a3 b3 c3 g3 e3 _ _ w (hk ‹kn = true›).2.1) ?_
    | refine Jl.call1 (v := .tuple #[.int .i64 1, .bool true]) rfl rfl rfl rfl en24 rfl (fun w hW => by with_reducible exact impl_AfterGrade.calls k3 a3 b3 c3 d3 e3 0 _ _ w (hk ‹kn = true›).2.2.1) ?_
    | refine Cj.ret rfl (Ej.out1 (P := Try.prog) (fn := Try.f10) (R := fun e w' => e = .returned (.bool true) ∧ Below w.heap.size w w') (fun _ _ h => h) rfl rfl (fun w hW => ⟨rfl, hW.below⟩))
    | refine Jl.splitG rfl rfl (fun h => ?_) (fun h => ?_)
    | refine Jl.nil (Ej.go ?_ (fun _ _ h => h))
    | (refine Jl.nil (Ej.back (fun _ _ h => h) (by repeat (first | exact .refl | apply DropTo.tail)) ?_); repeat (first | exact trivial | refine ⟨rfl, ?_⟩))
    | refine Cj.condF rfl rfl (Cj.skip rfl (Ej.go ?_ (fun _ _ h => h)))
    | (refine Cj.condF rfl rfl (Cj.skip rfl (Ej.back (fun _ _ h => h) (by repeat (first | exact .refl | apply DropTo.tail)) ?_)); repeat (first | exact trivial | refine ⟨rfl, ?_⟩))
    | refine Cj.condT rfl rfl ?_
    | refine Cj.cond rfl rfl (fun h => ?_) (fun h => ?_)
    | refine Cj.skip rfl (Ej.go ?_ (fun _ _ h => h))
    | (refine Cj.skip rfl (Ej.back (fun _ _ h => h) (by repeat (first | exact .refl | apply DropTo.tail)) ?_); repeat (first | exact trivial | refine ⟨rfl, ?_⟩))
    | refine Cj.chk (c1 := .seq _ (.cond _ _ .skip)) rfl ?_ ?_
    | refine Cj.chk (c1 := .seq _ (.seq _ (.cond _ _ .skip))) rfl ?_ ?_
    | refine Cj.seq rfl ?_
    | refine Cj.region rfl ?_)

theorem pr (x : Bool) (u : Int) : (if x = true then (u, true) else ((0 : Int), false)) = (if x = true then u else 0, x) := by cases x <;> rfl
theorem prP {p : Prop} [Decidable p] (u : Int) : (if p then (u, true) else ((0 : Int), false)) = (if p then u else 0, decide p) := by by_cases h : p <;> simp [h]
theorem prB {p : Prop} [Decidable p] (u : Bool) : (if p then (u, true) else (false, false)) = (if p then u else false, decide p) := by by_cases h : p <;> simp [h]
theorem FnValues_calls (l0 : List Int) (A0 : Option Addr) (c0 : Nat) (w : World) (hr0 : Kd.C (Kd.int .u8) w A0 l0.length l0) (hc0 : l0.length ≤ c0) (q0 : (l0.length ≤ maxLen ∧ ∀ x ∈ l0, (Lit.int .u8 x).wf = true)) : Calls Try.prog 10 #[.slice A0 l0.length c0] w fun e w' => e = .returned (.bool true) ∧ Below w.heap.size w w' := by
  by_cases hbig : (l0.length : Int) > 65536
  · exact walkB l0 A0 c0 w hr0 hc0 (by unfold laws_rBig.f; rw [decide_eq_true hbig])
  · have hl : CodeL l0 := code_of q0.2 (by omega)
    obtain ⟨a, b, c, d, e, hV⟩ := drawV hl
    obtain ⟨a1, b1, c1, d1, e1, a2, b2, c2, d2, e2, hA⟩ := drawA hl
    obtain ⟨a3, b3, c3, d3, e3, m, hG⟩ := drawG hl
    obtain ⟨k1, h10⟩ := (afterE a3 b3 c3 d3 e3 m).1.rounds
    obtain ⟨k2, h11⟩ := (afterE a3 b3 c3 d3 e3 m).2.rounds
    obtain ⟨k3, h12⟩ := (afterE a3 b3 c3 d3 e3 0).1.rounds
    have hal : (if okA a2 b2 c2 d2 = true ∧ okA a1 b1 c1 d1 = true then (alike a2 b2 d2 e2 a1 b1 d1 e1, true) else (false, false)) = (if okA a1 b1 c1 d1 = true ∧ okA a2 b2 c2 d2 = true then (alike a1 b1 d1 e1 a2 b2 d2 e2, true) else (false, false)) := by
      rw [alike_symm a2 b2 d2 e2 a1 b1 d1 e1]
      by_cases h1 : okA a1 b1 c1 d1 = true <;> by_cases h2 : okA a2 b2 c2 d2 = true <;> simp [h1, h2]
    have h8 := iAlikeR a2 b2 c2 d2 e2 a1 b1 c1 d1 e1
    rw [hal, prB] at h8
    rw [prP] at h10 h11
    have h1 := iValueOf a b c d e
    have h2 := sValueOf a b c d e
    have h4 := iValueOf a b c (wrap64 (d - 1)) e
    have h5 := iBaseOf a b c d e
    have h6 := sBaseOf a b c d e
    have h7 := iAlikeR a1 b1 c1 d1 e1 a2 b2 c2 d2 e2
    have h9 := sAlikeR a1 b1 c1 d1 e1 a2 b2 c2 d2 e2
    rw [pr] at h1 h2 h4 h5 h6
    rw [prB] at h7 h9
    refine walk l0 A0 c0 w hr0 hc0 (by unfold laws_rBig.f; rw [decide_eq_false hbig]) a b c d e hV _ _ h1 h2 (iIsA a b c d e) _ _ h4 ?_ _ _ h5 h6 a1 b1 c1 d1 e1 a2 b2 c2 d2 e2 hA _ _ h7 h8 h9 a3 b3 c3 d3 e3 m hG _ _ k1 k2 k3 h10 h11 (vA a3 b3 c3 e3 d3) (vA a3 b3 c3 e3 (bestG a3 b3 c3 d3 e3 m (d3 - 1).toNat d3)) ?_
    · intro g1 g2
      have hd := (okA_iff.1 g1).2.2.2
      rw [w64 (x := d - 1) (by omega)] at g2 ⊢
      have hd2 := (okA_iff.1 g2).2.2.2
      have hlt := vA_lt e g1 (d - 1) (by omega)
      rw [show d - 1 + 1 = d by omega] at hlt
      rw [if_pos g1, if_pos g2]
      omega
    · intro hk
      by_cases h : okA a3 b3 c3 d3 = true ∧ (0 ≤ m ∧ m ≤ 100000000)
      · simp only [if_pos h]
        have hd := (okA_iff.1 h.1).2.2.2
        obtain ⟨g1, g2⟩ := bestG_ok a3 b3 c3 d3 e3 m (d3 - 1).toNat d3
        have hr : 1 ≤ bestG a3 b3 c3 d3 e3 m (d3 - 1).toNat d3 ∧ bestG a3 b3 c3 d3 e3 m (d3 - 1).toNat d3 ≤ d3 := by omega
        have hfree : bestG a3 b3 c3 d3 e3 0 (d3 - 1).toNat d3 = 1 := by
          have := bestG_free e3 h.1 (d3 - 1).toNat (by omega)
          rwa [show (((d3 - 1).toNat : Int) + 1) = d3 by omega] at this
        rw [if_pos ⟨h.1, by omega⟩, hfree] at h12
        generalize bestG a3 b3 c3 d3 e3 m (d3 - 1).toNat d3 = g at g1 g2 hr ⊢
        have hm := mul_b (a := m) (b := d3 - g) (A := 100000000) (B := 3) h.2.1 h.2.2 (by omega) (by omega)
        have hv := vA_bd e3 h.1 g
        refine ⟨?_, ?_, h12, hr.1, hr.2, ?_⟩
        · rw [iValueOf, if_pos h.1]
        · rw [iValueOf, if_pos (okA_g h.1 (g := g) (by omega))]
        · unfold gain at g2
          rw [show d3 - d3 = 0 by omega, Int.mul_zero, Int.sub_zero] at g2
          rw [w64 (x := d3 - g) (by omega), w64 (x := m * (d3 - g)) (by omega), w64 (x := vA a3 b3 c3 e3 g - m * (d3 - g)) (by omega)]
          omega
      · exact absurd (of_decide_eq_true hk) h
end Go.Proofs.Ytembbdhhpblapaa.FV
