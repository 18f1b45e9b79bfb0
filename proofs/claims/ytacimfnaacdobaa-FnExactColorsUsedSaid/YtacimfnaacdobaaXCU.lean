import Derived.Test.YtacimfnaacdobaaSLZ
import Derived.Test.YtacimfnaacdobaaSLW
import Derived.Test.YtacimfnaacdobaaQx0
import Derived.KernelRfl
import Derived.Shelf.SlGeneric
import Derived.Ground.SlgmProg
import Derived.Ground.SlgnProg
namespace Go.Proofs
shelf_lay_g SlLaysM.n5 Slgm 5 at Try 23 as Try.laySort
shelf_lay_g SlLaysN.n43 Slgn 43 at Try 24 as Try.layCompact
end Go.Proofs
namespace Go.Proofs.Ytacimfnaacdobaa.CU
open Go Go.RowKit Go.Proofs.Ytacimfnaacdobaa.Q Go.Proofs.YtacimfnaacdobaaW.PrintWords Go.Proofs.YtacimfnaacdobaaW.SL
set_option linter.unusedSimpArgs false
set_option linter.unusedVariables false
set_option maxRecDepth 100000
theorem agg36 : AggT Try.prog 36 4 := ⟨by kernel_rfl⟩
theorem sz36 : SzT Try.prog 36 4 := ⟨by kernel_rfl⟩
theorem sc3 : ScT Try.prog 3 := ⟨by kernel_rfl⟩
theorem fld36_0 : FldT Try.prog 36 0 0 := ⟨by kernel_rfl⟩
theorem fld36_1 : FldT Try.prog 36 1 1 := ⟨by kernel_rfl⟩
theorem fld36_3 : FldT Try.prog 36 3 3 := ⟨by kernel_rfl⟩
theorem zero36 : ZeroT Try.prog 36 [.int .i64 0, .int .i64 0, .int .i64 0, .int .i64 0] := ⟨by kernel_rfl⟩
theorem zero3 : ZeroT Try.prog 3 [.int .i64 0] := ⟨by kernel_rfl⟩
theorem el25 : ElT Try.prog 25 36 4 := ⟨by kernel_rfl⟩
theorem el29 : ElT Try.prog 29 3 1 := ⟨by kernel_rfl⟩
theorem en8 : Ent Try.prog 8 := ⟨enters_of Try.func8 (by kernel_rfl) rfl⟩
theorem en23 : Ent Try.prog 23 := ⟨enters_of Try.func23 (by kernel_rfl) rfl⟩
theorem en24 : Ent Try.prog 24 := ⟨enters_of Try.func24 (by kernel_rfl) rfl⟩
theorem ap29 : ApT Try.prog 29 3 1 8 := apT_of (z := .int .i64 0) Try.underlying29 (by kernel_rfl) rfl (by decide)
theorem mixed : Try.prog.follows .mixedOrders = true := by kernel_rfl
theorem outI {w0 w : World} {v : Value} {xs : List Int} {its : List Go.Proofs.YtacimfnaacdobaaW.SL.Item} {ps : List (World → Prop)} (h : WS (base w0) w (.row KI 3 0 v xs :: its) ps) : (Kd.int .i64).R 3 w w0.heap.size (fun _ => True) v xs := by
  obtain ⟨h1, S, ⟨Aa, C1, g1, g2, g3, g4⟩, h3, h4⟩ := h
  have hown : ∀ k, v.ownBlock = some k → w0.heap.size ≤ k := fun k hk => (h3 k ((g3 k).2 (.inl (g1.1.1 k hk)))).resolve_left (fun h => h)
  exact Kd.R_mono (Kd.R_raise (b := 0) (fun _ _ _ _ h => h) g1.1 hown) (fun _ _ => trivial)
namespace Put
theorem app_eq (l : List Int) (p : Nat) (n : Int) : (([] ++ l.take p) ++ [n]) ++ l.drop p = l.take p ++ n :: l.drop p := by simp
set_option maxHeartbeats 4000000 in
theorem calls (A0 : Option Addr) (c0 : Nat) (l : List Int) (n : Int) (p : Nat) (w : World) (hr0 : Kd.C (Kd.int .i64) w A0 l.length l) (hc0 : l.length ≤ c0) (hb : l.length ≤ 1048576) (hp : p ≤ l.length)
    (h1 : ∀ i, i < p → l.getD ((i : Int)).toNat 0 < n) (h2 : p < l.length → n < l.getD ((p : Int)).toNat 0) :
    Calls Try.prog 22 #[.slice A0 l.length c0, .int .i64 n] w fun e w' => ∃ v, e = .returned v ∧ Kd.R (Kd.int .i64) 3 w' w.heap.size (fun _ => True) v (l.take p ++ n :: l.drop p) ∧ Below w.heap.size w w' := by
  rw [← app_eq]
  let Rr : Ending → World → Prop := fun e w' => ∃ v, e = .returned v ∧ Kd.R (Kd.int .i64) 3 w' w.heap.size (fun _ => True) v ((([] ++ l.take p) ++ [n]) ++ l.drop p) ∧ Below w.heap.size w w'
  have ht := Kd.C_take hr0 hp
  have hd : (Kd.int .i64).C w (if c0 = ((p : Int)).toNat then A0 else A0.map (·.add (((p : Int)).toNat * 1))) (l.drop p).length (l.drop p) := by
    rw [Int.toNat_natCast]; exact Kd.C_drop hr0 hp hc0
  refine enterW (args := [.slice A0 l.length c0, .int .i64 n]) [(fun w => KI.C w A0 l.length l), (fun w => KI.C w A0 (l.take p).length (l.take p)), (fun w => KI.C w (if c0 = ((p : Int)).toNat then A0 else A0.map (·.add (((p : Int)).toNat * 1))) (l.drop p).length (l.drop p))] (fun q hq W hb => by
    rcases List.mem_cons.1 hq with rfl | hq
    · exact Kd.C_below hr0 hb
    rcases List.mem_cons.1 hq with rfl | hq
    · exact Kd.C_below ht hb
    · rw [List.mem_singleton.1 hq]; exact Kd.C_below hd hb) Try.func22 rfl rfl ?_
  show Cj Try.prog _ _ _ (bodyPost Try.prog Try.f22 Rr) _ _ _
  repeat (first
    | (apply gateO; first
      | refine Jl.yd (Y.mv rfl rfl) rfl rfl rfl ?_
      | refine Jl.yd (Y.asg rfl rfl) rfl rfl rfl ?_
      | refine Jl.yd (Y.ext rfl rfl rfl) rfl rfl rfl ?_
      | refine Jl.yd (Y.pickT rfl rfl rfl) rfl rfl rfl ?_
      | refine Jl.yd (Y.pickF rfl rfl rfl) rfl rfl rfl ?_
      | refine Jl.off rfl rfl rfl ?_
      | refine Jl.yd (Y.cmpF rfl rfl rfl rfl (by omega)) rfl rfl rfl ?_
      | refine Jl.yd (Y.cmpT rfl rfl rfl rfl (by omega)) rfl rfl rfl ?_
      | refine Jl.yd (Y.neqB rfl rfl rfl Try.underlying4) rfl rfl rfl ?_
      | refine Jl.yd (Y.cmp rfl rfl rfl rfl) rfl rfl rfl ?_
      | refine Jl.yd (Y.not rfl rfl) rfl rfl rfl ?_
      | refine Jl.yd (Y.arithN rfl rfl rfl rfl (by omega)) rfl rfl rfl ?_
      | refine Jl.yd (Y.arith64 rfl rfl rfl rfl) rfl rfl rfl ?_
      | refine Jl.yd (Y.lenS Try.underlying29 rfl rfl rfl) rfl rfl rfl ?_
      | refine Jl.splitG rfl rfl (fun h => ?_) (fun h => ?_))
    | (apply gateE; first
      | refine Jl.nil (Ej.go ?_ (fun _ _ h => h))
      | (refine Jl.nil (Ej.back (fun _ _ h => h) (by repeat (first | exact .refl | apply DropTo.tail)) ?_); repeat (first | exact trivial | refine ⟨rfl, ?_⟩)))
    | (apply gateC; first
      | refine Cj.condF rfl rfl (Cj.skip rfl (Ej.go ?_ (fun _ _ h => h)))
      | (refine Cj.condF rfl rfl (Cj.skip rfl (Ej.back (fun _ _ h => h) (by repeat (first | exact .refl | apply DropTo.tail)) ?_)); repeat (first | exact trivial | refine ⟨rfl, ?_⟩))
      | refine Cj.condF rfl rfl ?_
      | refine Cj.condT rfl rfl ?_
      | refine Cj.exit rfl (Ej.go ?_ (fun _ _ h => h))
      | refine Cj.cond rfl rfl (fun h => ?_) (fun h => ?_)
      | refine Cj.skip rfl (Ej.go ?_ (fun _ _ h => h))
      | (refine Cj.skip rfl (Ej.back (fun _ _ h => h) (by repeat (first | exact .refl | apply DropTo.tail)) ?_); repeat (first | exact trivial | refine ⟨rfl, ?_⟩))
      | refine Cj.seq rfl ?_
      | refine Cj.region rfl ?_))
  refine Cj.block rfl ?_
  refine Cj.loopP (ι := Nat) (fun q => q ≤ p) (fun q => [(0, .slice A0 l.length c0), (1, .int .i64 n), (5, .int .i64 (q : Int))])
    (fun _ => []) (fun _ => [(fun w => KI.C w A0 l.length l), (fun w => KI.C w A0 (l.take p).length (l.take p)), (fun w => KI.C w (if c0 = ((p : Int)).toNat then A0 else A0.map (·.add (((p : Int)).toNat * 1))) (l.drop p).length (l.drop p))]) (fun q => p - q) rfl 0 (Nat.zero_le _) ⟨rfl, rfl, rfl, trivial⟩ (by repeat (first | exact .nil | refine Pick.cons (by repeat (first | exact .z | apply OutAt.s)) ?_)) (fun p hp => hp) (fun i hi => ?_)
  try dsimp only at hi ⊢
  by_cases hlt : i < p
  · obtain ⟨ad, rfl⟩ : ∃ ad, A0 = some ad := by
      obtain ⟨ad, e, _⟩ := hr0.2.2 (by omega)
      exact ⟨ad, e⟩
    have hx := h1 i hlt
    repeat (first
    | (apply gateO; first
      | refine Jl.yd (Y.mv rfl rfl) rfl rfl rfl ?_
      | refine Jl.yd (Y.asg rfl rfl) rfl rfl rfl ?_
      | refine Jl.yd (Y.ext rfl rfl rfl) rfl rfl rfl ?_
      | refine Jl.yd (Y.pickT rfl rfl rfl) rfl rfl rfl ?_
      | refine Jl.yd (Y.pickF rfl rfl rfl) rfl rfl rfl ?_
      | refine Jl.off rfl rfl rfl ?_
      | refine Jl.yd (Y.cmpF rfl rfl rfl rfl (by omega)) rfl rfl rfl ?_
      | refine Jl.yd (Y.cmpT rfl rfl rfl rfl (by omega)) rfl rfl rfl ?_
      | refine Jl.yd (Y.neqB rfl rfl rfl Try.underlying4) rfl rfl rfl ?_
      | refine Jl.yd (Y.cmp rfl rfl rfl rfl) rfl rfl rfl ?_
      | refine Jl.yd (Y.not rfl rfl) rfl rfl rfl ?_
      | refine Jl.yd (Y.arithN rfl rfl rfl rfl (by omega)) rfl rfl rfl ?_
      | refine Jl.yd (Y.arith64 rfl rfl rfl rfl) rfl rfl rfl ?_
      | refine Jl.yd (Y.lenS Try.underlying29 rfl rfl rfl) rfl rfl rfl ?_
      | refine Jl.yd (Y.idx rfl rfl rfl el29 (by omega) (by omega)) rfl rfl rfl ?_
      | refine Jl.yd (Y.loadI rfl rfl sc3 (by repeat (first | exact .head _ | refine .tail _ ?_)) (i : Int) (by omega) (by omega) rfl) rfl rfl rfl ?_
      | refine Jl.splitG rfl rfl (fun h => ?_) (fun h => ?_))
    | (apply gateE; first
      | refine Jl.nil (Ej.go ?_ (fun _ _ h => h))
      | (refine Jl.nil (Ej.back (fun _ _ h => h) (by repeat (first | exact .refl | apply DropTo.tail)) ?_); repeat (first | exact trivial | refine ⟨rfl, ?_⟩)))
    | (apply gateC; first
      | refine Cj.block rfl ?_
      | refine Cj.condF rfl rfl (Cj.skip rfl (Ej.go ?_ (fun _ _ h => h)))
      | (refine Cj.condF rfl rfl (Cj.skip rfl (Ej.back (fun _ _ h => h) (by repeat (first | exact .refl | apply DropTo.tail)) ?_)); repeat (first | exact trivial | refine ⟨rfl, ?_⟩))
      | refine Cj.condF rfl rfl ?_
      | refine Cj.condT rfl rfl ?_
      | refine Cj.exit rfl (Ej.go ?_ (fun _ _ h => h))
      | refine Cj.cond rfl rfl (fun h => ?_) (fun h => ?_)
      | refine Cj.skip rfl (Ej.go ?_ (fun _ _ h => h))
      | (refine Cj.skip rfl (Ej.back (fun _ _ h => h) (by repeat (first | exact .refl | apply DropTo.tail)) ?_); repeat (first | exact trivial | refine ⟨rfl, ?_⟩))
      | refine Cj.seq rfl ?_
      | refine Cj.region rfl ?_))
    refine Jl.nil (Ej.cutP (ι := Nat) _ _ _ _ (fun _ _ h => h) (i + 1) ⟨by omega, by omega⟩ ⟨rfl, rfl, rfl, trivial⟩ (by repeat (first | exact .nil | refine Pick.cons (by repeat (first | exact .z | apply OutAt.s)) ?_)) (fun p hp => hp))
  obtain rfl : p = i := by omega
  have e1 : (l.take p).length ≤ 1048576 := by rw [List.length_take]; omega
  have e2 : (l.drop p).length ≤ 1048576 := by rw [List.length_drop]; omega
  by_cases hl : p < l.length
  · have hn := h2 hl
    obtain ⟨ad, rfl⟩ : ∃ ad, A0 = some ad := by
      obtain ⟨ad, e, _⟩ := hr0.2.2 (by omega)
      exact ⟨ad, e⟩
    repeat (first
    | (apply gateO; first
      | refine Jl.yd (Y.mv rfl rfl) rfl rfl rfl ?_
      | refine Jl.yd (Y.asg rfl rfl) rfl rfl rfl ?_
      | refine Jl.yd (Y.ext rfl rfl rfl) rfl rfl rfl ?_
      | refine Jl.yd (Y.pickT rfl rfl rfl) rfl rfl rfl ?_
      | refine Jl.yd (Y.pickF rfl rfl rfl) rfl rfl rfl ?_
      | refine Jl.off rfl rfl rfl ?_
      | refine Jl.yd (Y.cmpF rfl rfl rfl rfl (by omega)) rfl rfl rfl ?_
      | refine Jl.yd (Y.cmpT rfl rfl rfl rfl (by omega)) rfl rfl rfl ?_
      | refine Jl.yd (Y.neqB rfl rfl rfl Try.underlying4) rfl rfl rfl ?_
      | refine Jl.yd (Y.cmp rfl rfl rfl rfl) rfl rfl rfl ?_
      | refine Jl.yd (Y.not rfl rfl) rfl rfl rfl ?_
      | refine Jl.yd (Y.arithN rfl rfl rfl rfl (by omega)) rfl rfl rfl ?_
      | refine Jl.yd (Y.arith64 rfl rfl rfl rfl) rfl rfl rfl ?_
      | refine Jl.yd (Y.lenS Try.underlying29 rfl rfl rfl) rfl rfl rfl ?_
      | refine Jl.yd (Y.idx rfl rfl rfl el29 (by omega) (by omega)) rfl rfl rfl ?_
      | refine Jl.yd (Y.loadI rfl rfl sc3 (by repeat (first | exact .head _ | refine .tail _ ?_)) (p : Int) (by omega) (by omega) rfl) rfl rfl rfl ?_
      | refine Jl.splitG rfl rfl (fun h => ?_) (fun h => ?_))
    | (apply gateE; first
      | refine Jl.nil (Ej.go ?_ (fun _ _ h => h))
      | (refine Jl.nil (Ej.back (fun _ _ h => h) (by repeat (first | exact .refl | apply DropTo.tail)) ?_); repeat (first | exact trivial | refine ⟨rfl, ?_⟩)))
    | (apply gateC; first
      | refine Cj.block rfl ?_
      | refine Cj.condF rfl rfl (Cj.skip rfl (Ej.go ?_ (fun _ _ h => h)))
      | (refine Cj.condF rfl rfl (Cj.skip rfl (Ej.back (fun _ _ h => h) (by repeat (first | exact .refl | apply DropTo.tail)) ?_)); repeat (first | exact trivial | refine ⟨rfl, ?_⟩))
      | refine Cj.condF rfl rfl ?_
      | refine Cj.condT rfl rfl ?_
      | refine Cj.exit rfl (Ej.go ?_ (fun _ _ h => h))
      | refine Cj.cond rfl rfl (fun h => ?_) (fun h => ?_)
      | refine Cj.skip rfl (Ej.go ?_ (fun _ _ h => h))
      | (refine Cj.skip rfl (Ej.back (fun _ _ h => h) (by repeat (first | exact .refl | apply DropTo.tail)) ?_); repeat (first | exact trivial | refine ⟨rfl, ?_⟩))
      | refine Cj.seq rfl ?_
      | refine Cj.region rfl ?_))
    refine Cj.regionJ rfl [0, 4, 6, 7, 11] mixed ?_
    refine Jw.take 1 rfl (by decide +kernel) (by intro c a d v w h; cases d <;> exact h) (fun w => Y.mv rfl rfl) rfl rfl rfl ?_
    refine Jw.take 2 rfl (by decide +kernel) (by intro c a d v w h; cases d <;> exact h) (fun w => Y.mv rfl rfl) rfl rfl rfl ?_
    refine Jw.take 3 rfl (by decide +kernel) (by intro c a d v w h; cases d <;> exact h) (fun w => Y.sliTo rfl rfl rfl el29 (by omega) (by omega)) rfl rfl rfl ?_
    refine Jw.take 5 rfl (by decide +kernel) (by intro c a d v w h; cases d <;> exact h) (fun w => Y.mv rfl rfl) rfl rfl rfl ?_
    refine Jw.take 8 rfl (by decide +kernel) (by intro c a d v w h; cases d <;> exact h) (fun w => Y.mv rfl rfl) rfl rfl rfl ?_
    refine Jw.take 9 rfl (by decide +kernel) (by intro c a d v w h; cases d <;> exact h) (fun w => Y.mv rfl rfl) rfl rfl rfl ?_
    refine Jw.take 10 rfl (by decide +kernel) (by intro c a d v w h; cases d <;> exact h) (fun w => Y.sliFrom rfl rfl rfl el29 (by omega) (by omega)) rfl rfl rfl ?_
    refine Jw.br2 (mkD [] [0]) 0 6 rfl rfl (by decide +kernel) rfl rfl ?_ ?_
    · skip
      refine Jl.lit0 KI rfl rfl rfl rfl el29 (fun g0 => ?_)
      refine Jl.jw ?_
      refine Jw.br2 (mkD [] [0]) 4 6 rfl rfl (by decide +kernel) rfl rfl ?_ ?_
      · skip
        refine Jl.appI (xs := []) (zs := l.take p) rfl rfl rfl rfl rfl rfl ap29 (by rw [List.length_take]; omega) (by repeat (first | exact memH | refine memT ?_)) (by repeat (first | exact .z | apply OutAt.s)) (by (try simp only [List.length_append, List.length_cons, List.length_nil]); omega) (fun A4 c4 h4 => ?_)
        refine Jl.jw ?_
        refine Jw.step (mkD [] [0]) 6 rfl (by decide +kernel) rfl rfl ?_
        refine Jl.lit1 rfl rfl rfl rfl rfl el29 zero3 rfl (fun g6 => ?_)
        refine Jl.jw ?_
        refine Jw.step (mkD [] [0]) 7 rfl (by decide +kernel) rfl rfl ?_
        refine Jl.app (dk := KI) (xs := [] ++ l.take p) n (fun _ => False) rfl rfl rfl rfl rfl rfl ap29 (by repeat (first | exact .head _ | refine .tail _ ?_)) rfl (fun w => rfl) (fun u hu => by rw [List.mem_singleton.1 hu]; rfl) (by repeat (first | exact .z | apply OutAt.s)) (by (try simp only [List.length_append, List.length_cons, List.length_nil]); omega) (by (try simp only [List.length_append, List.length_cons, List.length_nil]); omega) (fun A7 c7 h7 => ?_)
        refine Jl.jw ?_
        refine Jw.step (mkD [] [0]) 11 rfl (by decide +kernel) rfl rfl ?_
        refine Jl.appI (xs := ([] ++ l.take p) ++ [n]) (zs := l.drop p) rfl rfl rfl rfl rfl rfl ap29 (by rw [List.length_drop]; omega) (by repeat (first | exact memH | refine memT ?_)) (by repeat (first | exact .z | apply OutAt.s)) (by (try simp only [List.length_append, List.length_cons, List.length_nil]); omega) (fun A11 c11 h11 => ?_)
        refine Jl.jw ?_
        refine Jw.take 12 rfl (by decide +kernel) (by intro c a d v w h; cases d <;> exact h) (fun w => Y.asg rfl rfl) rfl rfl rfl ?_
        refine Jw.done (by decide +kernel) (Ej.go ?_ (fun _ _ h => h))
        refine Cj.ret rfl (Ej.out1 (P := Try.prog) (fn := Try.f22) (R := Rr) (fun _ _ h => h) rfl rfl (fun w' hW => ⟨_, rfl, outI hW, hW.below⟩))
      · skip
        refine Jl.lit1 rfl rfl rfl rfl rfl el29 zero3 rfl (fun g6 => ?_)
        refine Jl.jw ?_
        refine Jw.step (mkD [] [0]) 4 rfl (by decide +kernel) rfl rfl ?_
        refine Jl.appI (xs := []) (zs := l.take p) rfl rfl rfl rfl rfl rfl ap29 (by rw [List.length_take]; omega) (by repeat (first | exact memH | refine memT ?_)) (by repeat (first | exact .z | apply OutAt.s)) (by (try simp only [List.length_append, List.length_cons, List.length_nil]); omega) (fun A4 c4 h4 => ?_)
        refine Jl.jw ?_
        refine Jw.step (mkD [] [0]) 7 rfl (by decide +kernel) rfl rfl ?_
        refine Jl.app (dk := KI) (xs := [] ++ l.take p) n (fun _ => False) rfl rfl rfl rfl rfl rfl ap29 (by repeat (first | exact .head _ | refine .tail _ ?_)) rfl (fun w => rfl) (fun u hu => by rw [List.mem_singleton.1 hu]; rfl) (by repeat (first | exact .z | apply OutAt.s)) (by (try simp only [List.length_append, List.length_cons, List.length_nil]); omega) (by (try simp only [List.length_append, List.length_cons, List.length_nil]); omega) (fun A7 c7 h7 => ?_)
        refine Jl.jw ?_
        refine Jw.step (mkD [] [0]) 11 rfl (by decide +kernel) rfl rfl ?_
        refine Jl.appI (xs := ([] ++ l.take p) ++ [n]) (zs := l.drop p) rfl rfl rfl rfl rfl rfl ap29 (by rw [List.length_drop]; omega) (by repeat (first | exact memH | refine memT ?_)) (by repeat (first | exact .z | apply OutAt.s)) (by (try simp only [List.length_append, List.length_cons, List.length_nil]); omega) (fun A11 c11 h11 => ?_)
        refine Jl.jw ?_
        refine Jw.take 12 rfl (by decide +kernel) (by intro c a d v w h; cases d <;> exact h) (fun w => Y.asg rfl rfl) rfl rfl rfl ?_
        refine Jw.done (by decide +kernel) (Ej.go ?_ (fun _ _ h => h))
        refine Cj.ret rfl (Ej.out1 (P := Try.prog) (fn := Try.f22) (R := Rr) (fun _ _ h => h) rfl rfl (fun w' hW => ⟨_, rfl, outI hW, hW.below⟩))
    · skip
      refine Jl.lit1 rfl rfl rfl rfl rfl el29 zero3 rfl (fun g6 => ?_)
      refine Jl.jw ?_
      refine Jw.step (mkD [] [0]) 0 rfl (by decide +kernel) rfl rfl ?_
      refine Jl.lit0 KI rfl rfl rfl rfl el29 (fun g0 => ?_)
      refine Jl.jw ?_
      refine Jw.step (mkD [] [0]) 4 rfl (by decide +kernel) rfl rfl ?_
      refine Jl.appI (xs := []) (zs := l.take p) rfl rfl rfl rfl rfl rfl ap29 (by rw [List.length_take]; omega) (by repeat (first | exact memH | refine memT ?_)) (by repeat (first | exact .z | apply OutAt.s)) (by (try simp only [List.length_append, List.length_cons, List.length_nil]); omega) (fun A4 c4 h4 => ?_)
      refine Jl.jw ?_
      refine Jw.step (mkD [] [0]) 7 rfl (by decide +kernel) rfl rfl ?_
      refine Jl.app (dk := KI) (xs := [] ++ l.take p) n (fun _ => False) rfl rfl rfl rfl rfl rfl ap29 (by repeat (first | exact .head _ | refine .tail _ ?_)) rfl (fun w => rfl) (fun u hu => by rw [List.mem_singleton.1 hu]; rfl) (by repeat (first | exact .z | apply OutAt.s)) (by (try simp only [List.length_append, List.length_cons, List.length_nil]); omega) (by (try simp only [List.length_append, List.length_cons, List.length_nil]); omega) (fun A7 c7 h7 => ?_)
      refine Jl.jw ?_
      refine Jw.step (mkD [] [0]) 11 rfl (by decide +kernel) rfl rfl ?_
      refine Jl.appI (xs := ([] ++ l.take p) ++ [n]) (zs := l.drop p) rfl rfl rfl rfl rfl rfl ap29 (by rw [List.length_drop]; omega) (by repeat (first | exact memH | refine memT ?_)) (by repeat (first | exact .z | apply OutAt.s)) (by (try simp only [List.length_append, List.length_cons, List.length_nil]); omega) (fun A11 c11 h11 => ?_)
      refine Jl.jw ?_
      refine Jw.take 12 rfl (by decide +kernel) (by intro c a d v w h; cases d <;> exact h) (fun w => Y.asg rfl rfl) rfl rfl rfl ?_
      refine Jw.done (by decide +kernel) (Ej.go ?_ (fun _ _ h => h))
      refine Cj.ret rfl (Ej.out1 (P := Try.prog) (fn := Try.f22) (R := Rr) (fun _ _ h => h) rfl rfl (fun w' hW => ⟨_, rfl, outI hW, hW.below⟩))
  · repeat (first
    | (apply gateO; first
      | refine Jl.yd (Y.mv rfl rfl) rfl rfl rfl ?_
      | refine Jl.yd (Y.asg rfl rfl) rfl rfl rfl ?_
      | refine Jl.yd (Y.ext rfl rfl rfl) rfl rfl rfl ?_
      | refine Jl.yd (Y.pickT rfl rfl rfl) rfl rfl rfl ?_
      | refine Jl.yd (Y.pickF rfl rfl rfl) rfl rfl rfl ?_
      | refine Jl.off rfl rfl rfl ?_
      | refine Jl.yd (Y.cmpF rfl rfl rfl rfl (by omega)) rfl rfl rfl ?_
      | refine Jl.yd (Y.cmpT rfl rfl rfl rfl (by omega)) rfl rfl rfl ?_
      | refine Jl.yd (Y.neqB rfl rfl rfl Try.underlying4) rfl rfl rfl ?_
      | refine Jl.yd (Y.cmp rfl rfl rfl rfl) rfl rfl rfl ?_
      | refine Jl.yd (Y.not rfl rfl) rfl rfl rfl ?_
      | refine Jl.yd (Y.arithN rfl rfl rfl rfl (by omega)) rfl rfl rfl ?_
      | refine Jl.yd (Y.arith64 rfl rfl rfl rfl) rfl rfl rfl ?_
      | refine Jl.yd (Y.lenS Try.underlying29 rfl rfl rfl) rfl rfl rfl ?_
      | refine Jl.splitG rfl rfl (fun h => ?_) (fun h => ?_))
    | (apply gateE; first
      | refine Jl.nil (Ej.go ?_ (fun _ _ h => h))
      | (refine Jl.nil (Ej.back (fun _ _ h => h) (by repeat (first | exact .refl | apply DropTo.tail)) ?_); repeat (first | exact trivial | refine ⟨rfl, ?_⟩)))
    | (apply gateC; first
      | refine Cj.block rfl ?_
      | refine Cj.condF rfl rfl (Cj.skip rfl (Ej.go ?_ (fun _ _ h => h)))
      | (refine Cj.condF rfl rfl (Cj.skip rfl (Ej.back (fun _ _ h => h) (by repeat (first | exact .refl | apply DropTo.tail)) ?_)); repeat (first | exact trivial | refine ⟨rfl, ?_⟩))
      | refine Cj.condF rfl rfl ?_
      | refine Cj.condT rfl rfl ?_
      | refine Cj.exit rfl (Ej.go ?_ (fun _ _ h => h))
      | refine Cj.cond rfl rfl (fun h => ?_) (fun h => ?_)
      | refine Cj.skip rfl (Ej.go ?_ (fun _ _ h => h))
      | (refine Cj.skip rfl (Ej.back (fun _ _ h => h) (by repeat (first | exact .refl | apply DropTo.tail)) ?_); repeat (first | exact trivial | refine ⟨rfl, ?_⟩))
      | refine Cj.seq rfl ?_
      | refine Cj.region rfl ?_))
    refine Cj.regionJ rfl [0, 4, 6, 7, 11] mixed ?_
    refine Jw.take 1 rfl (by decide +kernel) (by intro c a d v w h; cases d <;> exact h) (fun w => Y.mv rfl rfl) rfl rfl rfl ?_
    refine Jw.take 2 rfl (by decide +kernel) (by intro c a d v w h; cases d <;> exact h) (fun w => Y.mv rfl rfl) rfl rfl rfl ?_
    refine Jw.take 3 rfl (by decide +kernel) (by intro c a d v w h; cases d <;> exact h) (fun w => Y.sliTo rfl rfl rfl el29 (by omega) (by omega)) rfl rfl rfl ?_
    refine Jw.take 5 rfl (by decide +kernel) (by intro c a d v w h; cases d <;> exact h) (fun w => Y.mv rfl rfl) rfl rfl rfl ?_
    refine Jw.take 8 rfl (by decide +kernel) (by intro c a d v w h; cases d <;> exact h) (fun w => Y.mv rfl rfl) rfl rfl rfl ?_
    refine Jw.take 9 rfl (by decide +kernel) (by intro c a d v w h; cases d <;> exact h) (fun w => Y.mv rfl rfl) rfl rfl rfl ?_
    refine Jw.take 10 rfl (by decide +kernel) (by intro c a d v w h; cases d <;> exact h) (fun w => Y.sliFrom rfl rfl rfl el29 (by omega) (by omega)) rfl rfl rfl ?_
    refine Jw.br2 (mkD [] [0]) 0 6 rfl rfl (by decide +kernel) rfl rfl ?_ ?_
    · skip
      refine Jl.lit0 KI rfl rfl rfl rfl el29 (fun g0 => ?_)
      refine Jl.jw ?_
      refine Jw.br2 (mkD [] [0]) 4 6 rfl rfl (by decide +kernel) rfl rfl ?_ ?_
      · skip
        refine Jl.appI (xs := []) (zs := l.take p) rfl rfl rfl rfl rfl rfl ap29 (by rw [List.length_take]; omega) (by repeat (first | exact memH | refine memT ?_)) (by repeat (first | exact .z | apply OutAt.s)) (by (try simp only [List.length_append, List.length_cons, List.length_nil]); omega) (fun A4 c4 h4 => ?_)
        refine Jl.jw ?_
        refine Jw.step (mkD [] [0]) 6 rfl (by decide +kernel) rfl rfl ?_
        refine Jl.lit1 rfl rfl rfl rfl rfl el29 zero3 rfl (fun g6 => ?_)
        refine Jl.jw ?_
        refine Jw.step (mkD [] [0]) 7 rfl (by decide +kernel) rfl rfl ?_
        refine Jl.app (dk := KI) (xs := [] ++ l.take p) n (fun _ => False) rfl rfl rfl rfl rfl rfl ap29 (by repeat (first | exact .head _ | refine .tail _ ?_)) rfl (fun w => rfl) (fun u hu => by rw [List.mem_singleton.1 hu]; rfl) (by repeat (first | exact .z | apply OutAt.s)) (by (try simp only [List.length_append, List.length_cons, List.length_nil]); omega) (by (try simp only [List.length_append, List.length_cons, List.length_nil]); omega) (fun A7 c7 h7 => ?_)
        refine Jl.jw ?_
        refine Jw.step (mkD [] [0]) 11 rfl (by decide +kernel) rfl rfl ?_
        refine Jl.appI (xs := ([] ++ l.take p) ++ [n]) (zs := l.drop p) rfl rfl rfl rfl rfl rfl ap29 (by rw [List.length_drop]; omega) (by repeat (first | exact memH | refine memT ?_)) (by repeat (first | exact .z | apply OutAt.s)) (by (try simp only [List.length_append, List.length_cons, List.length_nil]); omega) (fun A11 c11 h11 => ?_)
        refine Jl.jw ?_
        refine Jw.take 12 rfl (by decide +kernel) (by intro c a d v w h; cases d <;> exact h) (fun w => Y.asg rfl rfl) rfl rfl rfl ?_
        refine Jw.done (by decide +kernel) (Ej.go ?_ (fun _ _ h => h))
        refine Cj.ret rfl (Ej.out1 (P := Try.prog) (fn := Try.f22) (R := Rr) (fun _ _ h => h) rfl rfl (fun w' hW => ⟨_, rfl, outI hW, hW.below⟩))
      · skip
        refine Jl.lit1 rfl rfl rfl rfl rfl el29 zero3 rfl (fun g6 => ?_)
        refine Jl.jw ?_
        refine Jw.step (mkD [] [0]) 4 rfl (by decide +kernel) rfl rfl ?_
        refine Jl.appI (xs := []) (zs := l.take p) rfl rfl rfl rfl rfl rfl ap29 (by rw [List.length_take]; omega) (by repeat (first | exact memH | refine memT ?_)) (by repeat (first | exact .z | apply OutAt.s)) (by (try simp only [List.length_append, List.length_cons, List.length_nil]); omega) (fun A4 c4 h4 => ?_)
        refine Jl.jw ?_
        refine Jw.step (mkD [] [0]) 7 rfl (by decide +kernel) rfl rfl ?_
        refine Jl.app (dk := KI) (xs := [] ++ l.take p) n (fun _ => False) rfl rfl rfl rfl rfl rfl ap29 (by repeat (first | exact .head _ | refine .tail _ ?_)) rfl (fun w => rfl) (fun u hu => by rw [List.mem_singleton.1 hu]; rfl) (by repeat (first | exact .z | apply OutAt.s)) (by (try simp only [List.length_append, List.length_cons, List.length_nil]); omega) (by (try simp only [List.length_append, List.length_cons, List.length_nil]); omega) (fun A7 c7 h7 => ?_)
        refine Jl.jw ?_
        refine Jw.step (mkD [] [0]) 11 rfl (by decide +kernel) rfl rfl ?_
        refine Jl.appI (xs := ([] ++ l.take p) ++ [n]) (zs := l.drop p) rfl rfl rfl rfl rfl rfl ap29 (by rw [List.length_drop]; omega) (by repeat (first | exact memH | refine memT ?_)) (by repeat (first | exact .z | apply OutAt.s)) (by (try simp only [List.length_append, List.length_cons, List.length_nil]); omega) (fun A11 c11 h11 => ?_)
        refine Jl.jw ?_
        refine Jw.take 12 rfl (by decide +kernel) (by intro c a d v w h; cases d <;> exact h) (fun w => Y.asg rfl rfl) rfl rfl rfl ?_
        refine Jw.done (by decide +kernel) (Ej.go ?_ (fun _ _ h => h))
        refine Cj.ret rfl (Ej.out1 (P := Try.prog) (fn := Try.f22) (R := Rr) (fun _ _ h => h) rfl rfl (fun w' hW => ⟨_, rfl, outI hW, hW.below⟩))
    · skip
      refine Jl.lit1 rfl rfl rfl rfl rfl el29 zero3 rfl (fun g6 => ?_)
      refine Jl.jw ?_
      refine Jw.step (mkD [] [0]) 0 rfl (by decide +kernel) rfl rfl ?_
      refine Jl.lit0 KI rfl rfl rfl rfl el29 (fun g0 => ?_)
      refine Jl.jw ?_
      refine Jw.step (mkD [] [0]) 4 rfl (by decide +kernel) rfl rfl ?_
      refine Jl.appI (xs := []) (zs := l.take p) rfl rfl rfl rfl rfl rfl ap29 (by rw [List.length_take]; omega) (by repeat (first | exact memH | refine memT ?_)) (by repeat (first | exact .z | apply OutAt.s)) (by (try simp only [List.length_append, List.length_cons, List.length_nil]); omega) (fun A4 c4 h4 => ?_)
      refine Jl.jw ?_
      refine Jw.step (mkD [] [0]) 7 rfl (by decide +kernel) rfl rfl ?_
      refine Jl.app (dk := KI) (xs := [] ++ l.take p) n (fun _ => False) rfl rfl rfl rfl rfl rfl ap29 (by repeat (first | exact .head _ | refine .tail _ ?_)) rfl (fun w => rfl) (fun u hu => by rw [List.mem_singleton.1 hu]; rfl) (by repeat (first | exact .z | apply OutAt.s)) (by (try simp only [List.length_append, List.length_cons, List.length_nil]); omega) (by (try simp only [List.length_append, List.length_cons, List.length_nil]); omega) (fun A7 c7 h7 => ?_)
      refine Jl.jw ?_
      refine Jw.step (mkD [] [0]) 11 rfl (by decide +kernel) rfl rfl ?_
      refine Jl.appI (xs := ([] ++ l.take p) ++ [n]) (zs := l.drop p) rfl rfl rfl rfl rfl rfl ap29 (by rw [List.length_drop]; omega) (by repeat (first | exact memH | refine memT ?_)) (by repeat (first | exact .z | apply OutAt.s)) (by (try simp only [List.length_append, List.length_cons, List.length_nil]); omega) (fun A11 c11 h11 => ?_)
      refine Jl.jw ?_
      refine Jw.take 12 rfl (by decide +kernel) (by intro c a d v w h; cases d <;> exact h) (fun w => Y.asg rfl rfl) rfl rfl rfl ?_
      refine Jw.done (by decide +kernel) (Ej.go ?_ (fun _ _ h => h))
      refine Cj.ret rfl (Ej.out1 (P := Try.prog) (fn := Try.f22) (R := Rr) (fun _ _ h => h) rfl rfl (fun w' hW => ⟨_, rfl, outI hW, hW.below⟩))
/-- The place of n. -/
def pos (l : List Int) (n : Int) : Nat := (l.takeWhile fun x => decide (x < n)).length
def put (l : List Int) (n : Int) : List Int := l.take (pos l n) ++ n :: l.drop (pos l n)
theorem pos_cons (a : Int) (l : List Int) (n : Int) : pos (a :: l) n = if a < n then pos l n + 1 else 0 := by
  unfold pos
  rw [List.takeWhile_cons]
  by_cases h : a < n <;> simp [h]
theorem pos_le (n : Int) : ∀ l : List Int, pos l n ≤ l.length
  | [] => Nat.le_refl _
  | a :: l => by
    rw [pos_cons]
    have := pos_le n l
    split <;> simp <;> omega
theorem pos_lt (n : Int) : ∀ (l : List Int) (i : Nat), i < pos l n → l.getD i 0 < n
  | [], i, h => by simp [pos] at h
  | a :: l, i, h => by
    rw [pos_cons] at h
    split at h
    · rename_i ha
      cases i with
      | zero => exact ha
      | succ i => exact pos_lt n l i (by omega)
    · omega
theorem pos_ge (n : Int) : ∀ l : List Int, n ∉ l → pos l n < l.length → n < l.getD (pos l n) 0
  | [], _, h => by simp [pos] at h
  | a :: l, hn, h => by
    rw [pos_cons] at h ⊢
    simp only [List.mem_cons, not_or] at hn
    split at h
    · rename_i ha
      rw [if_pos ha]
      exact pos_ge n l hn.2 (by simp at h; omega)
    · rename_i ha
      rw [if_neg ha]
      show n < a
      omega
theorem full (A0 : Option Addr) (c0 : Nat) (l : List Int) (n : Int) (w : World) (hr0 : Kd.C (Kd.int .i64) w A0 l.length l) (hc0 : l.length ≤ c0) (hb : l.length ≤ 1048576) (hn : n ∉ l) :
    Calls Try.prog 22 #[.slice A0 l.length c0, .int .i64 n] w fun e w' => ∃ v, e = .returned v ∧ Kd.R (Kd.int .i64) 3 w' w.heap.size (fun _ => True) v (put l n) ∧ Below w.heap.size w w' :=
  calls A0 c0 l n (pos l n) w hr0 hc0 hb (pos_le n l) (fun i hi => by rw [Int.toNat_natCast]; exact pos_lt n l i hi) (fun h => by rw [Int.toNat_natCast]; exact pos_ge n l hn h)
end Put
namespace Col
def colOf (x : S36) : Option Int := if x.f0 = 1 then some x.f3 else if x.f0 = 6 then some x.f1 else none
def cols (xs : List S36) : List Int := xs.filterMap colOf
theorem sort_ (A : Option Addr) (S : Nat → Prop) (xs : List Int) (c : Nat) {w : World} (h : (Go.Proofs.YtacimfnaacdobaaW.SL.Item.row KI 3 0 (.slice A xs.length c) xs).p w S) (hs : xs.length ≤ 1048576) :
    Calls Try.prog 23 #[.slice A xs.length c] w fun e' w' => e' = .returned (.tuple #[]) ∧ ∃ S', (Go.Proofs.YtacimfnaacdobaaW.SL.Item.row KI 3 0 (.slice A (sortI xs).length c) (sortI xs)).p w' S' ∧ (∀ k, S' k → k < w.heap.size → S k) ∧ Aft S w w' := sort_I Try.laySort h (by omega)
theorem comp_ (A : Option Addr) (S : Nat → Prop) (xs : List Int) (c : Nat) {w : World} (h : (Go.Proofs.YtacimfnaacdobaaW.SL.Item.row KI 3 0 (.slice A (sortI xs).length c) (sortI xs)).p w S) (hs : xs.length ≤ 1048576) :
    Calls Try.prog 24 #[.slice A xs.length c] w fun e' w' => e' = .returned (.slice A (Lib.compact (sortI xs)).length c) ∧ ∃ S', (Go.Proofs.YtacimfnaacdobaaW.SL.Item.row KI 3 0 (.slice A (Lib.compact (sortI xs)).length c) (Lib.compact (sortI xs))).p w' S' ∧ (∀ k, S' k → k < w.heap.size → S k) ∧ Aft S w w' := by
  have hl := sortI_len xs
  have := compact_I Try.layCompact h (by omega)
  generalize sortI xs = ys at this hl ⊢
  rw [← hl]
  exact this
theorem no (A0 : Option Addr) (c0 : Nat) (xs : List S36) (w : World) (hr0 : Kd.C k36 w A0 xs.length xs) (hP : ∀ w, Kd.C k36 w A0 xs.length xs → Calls Try.prog 8 #[.slice A0 xs.length c0] w fun e w' => e = .returned (.bool false) ∧ Below w.heap.size w w') :
    Calls Try.prog 11 #[.slice A0 xs.length c0] w fun e w' => ∃ v, e = .returned (.tuple #[v, .bool false]) ∧ Kd.R (Kd.int .i64) 3 w' w.heap.size (fun _ => True) v [] ∧ Below w.heap.size w w' := by
  let Rr : Ending → World → Prop := fun e w' => ∃ v, e = .returned (.tuple #[v, .bool false]) ∧ Kd.R (Kd.int .i64) 3 w' w.heap.size (fun _ => True) v [] ∧ Below w.heap.size w w'
  refine enterW (args := [.slice A0 xs.length c0]) [(fun W => Kd.C k36 W A0 xs.length xs)] (fun q hq W hb => by rw [List.mem_singleton.1 hq]; exact Kd.C_below hr0 hb) Try.func11 rfl rfl ?_
  show Cj Try.prog _ _ _ (bodyPost Try.prog Try.f11 Rr) _ _ _
  repeat (first
    | (apply gateO; first
      | refine Jl.yd (Y.mv rfl rfl) rfl rfl rfl ?_
      | refine Jl.yd (Y.asg rfl rfl) rfl rfl rfl ?_
      | refine Jl.yd (Y.ext rfl rfl rfl) rfl rfl rfl ?_
      | refine Jl.yd (Y.pickT rfl rfl rfl) rfl rfl rfl ?_
      | refine Jl.yd (Y.pickF rfl rfl rfl) rfl rfl rfl ?_
      | refine Jl.off rfl rfl rfl ?_
      | refine Jl.yd (Y.cmpF rfl rfl rfl rfl (by omega)) rfl rfl rfl ?_
      | refine Jl.yd (Y.cmpT rfl rfl rfl rfl (by omega)) rfl rfl rfl ?_
      | refine Jl.yd (Y.neqB rfl rfl rfl Try.underlying4) rfl rfl rfl ?_
      | refine Jl.yd (Y.cmp rfl rfl rfl rfl) rfl rfl rfl ?_
      | refine Jl.yd (Y.not rfl rfl) rfl rfl rfl ?_
      | refine Jl.yd (Y.arithN rfl rfl rfl rfl (by omega)) rfl rfl rfl ?_
      | refine Jl.yd (Y.arith64 rfl rfl rfl rfl) rfl rfl rfl ?_
      | refine Jl.call1 (v := .bool false) rfl rfl rfl rfl en8 rfl (fun w hW => by with_reducible exact hP w (hW.at 0 rfl)) ?_
      | refine Jl.splitG rfl rfl (fun h => ?_) (fun h => ?_))
    | (apply gateE; first
      | refine Jl.nil (Ej.go ?_ (fun _ _ h => h))
      | (refine Jl.nil (Ej.back (fun _ _ h => h) (by repeat (first | exact .refl | apply DropTo.tail)) ?_); repeat (first | exact trivial | refine ⟨rfl, ?_⟩)))
    | (apply gateC; first
      | refine Cj.ret rfl (Ej.out2 (P := Try.prog) (fn := Try.f11) (R := Rr) (fun _ _ h => h) rfl rfl rfl (fun w' hW => ?_))
      | refine Cj.condF rfl rfl (Cj.skip rfl (Ej.go ?_ (fun _ _ h => h)))
      | (refine Cj.condF rfl rfl (Cj.skip rfl (Ej.back (fun _ _ h => h) (by repeat (first | exact .refl | apply DropTo.tail)) ?_)); repeat (first | exact trivial | refine ⟨rfl, ?_⟩))
      | refine Cj.condF rfl rfl ?_
      | refine Cj.condT rfl rfl ?_
      | refine Cj.exit rfl (Ej.go ?_ (fun _ _ h => h))
      | refine Cj.cond rfl rfl (fun h => ?_) (fun h => ?_)
      | refine Cj.skip rfl (Ej.go ?_ (fun _ _ h => h))
      | (refine Cj.skip rfl (Ej.back (fun _ _ h => h) (by repeat (first | exact .refl | apply DropTo.tail)) ?_); repeat (first | exact trivial | refine ⟨rfl, ?_⟩))
      | refine Cj.seq rfl ?_
      | refine Cj.region rfl ?_))
  exact ⟨_, rfl, Kd.R_nil _ _ _ _ _, hW.below⟩
set_option maxHeartbeats 4000000 in
theorem yes (A0 : Option Addr) (c0 : Nat) (xs : List S36) (w : World) (hr0 : Kd.C k36 w A0 xs.length xs) (hn : xs.length ≤ 1048576) (hP : ∀ w, Kd.C k36 w A0 xs.length xs → Calls Try.prog 8 #[.slice A0 xs.length c0] w fun e w' => e = .returned (.bool true) ∧ Below w.heap.size w w') :
    Calls Try.prog 11 #[.slice A0 xs.length c0] w fun e w' => ∃ v, e = .returned (.tuple #[v, .bool true]) ∧ Kd.R (Kd.int .i64) 3 w' w.heap.size (fun _ => True) v (Lib.compact (sortI (cols xs))) ∧ Below w.heap.size w w' := by
  let Rr : Ending → World → Prop := fun e w' => ∃ v, e = .returned (.tuple #[v, .bool true]) ∧ Kd.R (Kd.int .i64) 3 w' w.heap.size (fun _ => True) v (Lib.compact (sortI (cols xs))) ∧ Below w.heap.size w w'
  refine enterW (args := [.slice A0 xs.length c0]) [(fun W => Kd.C k36 W A0 xs.length xs)] (fun q hq W hb => by rw [List.mem_singleton.1 hq]; exact Kd.C_below hr0 hb) Try.func11 rfl rfl ?_
  show Cj Try.prog _ _ _ (bodyPost Try.prog Try.f11 Rr) _ _ _
  repeat (first
    | (apply gateO; first
      | refine Jl.yd (Y.mv rfl rfl) rfl rfl rfl ?_
      | refine Jl.yd (Y.asg rfl rfl) rfl rfl rfl ?_
      | refine Jl.yd (Y.ext rfl rfl rfl) rfl rfl rfl ?_
      | refine Jl.yd (Y.pickT rfl rfl rfl) rfl rfl rfl ?_
      | refine Jl.yd (Y.pickF rfl rfl rfl) rfl rfl rfl ?_
      | refine Jl.off rfl rfl rfl ?_
      | refine Jl.yd (Y.cmpF rfl rfl rfl rfl (by omega)) rfl rfl rfl ?_
      | refine Jl.yd (Y.cmpT rfl rfl rfl rfl (by omega)) rfl rfl rfl ?_
      | refine Jl.yd (Y.neqB rfl rfl rfl Try.underlying4) rfl rfl rfl ?_
      | refine Jl.yd (Y.cmp rfl rfl rfl rfl) rfl rfl rfl ?_
      | refine Jl.yd (Y.not rfl rfl) rfl rfl rfl ?_
      | refine Jl.yd (Y.arithN rfl rfl rfl rfl (by omega)) rfl rfl rfl ?_
      | refine Jl.yd (Y.arith64 rfl rfl rfl rfl) rfl rfl rfl ?_
      | refine Jl.yd (Y.lenS Try.underlying25 rfl rfl rfl) rfl rfl rfl ?_
      | refine Jl.call1 (v := .bool true) rfl rfl rfl rfl en8 rfl (fun w hW => by with_reducible exact hP w (hW.at 0 rfl)) ?_
      | refine Jl.lit0 KI rfl rfl rfl rfl el29 (fun gr => ?_)
      | refine Jl.splitG rfl rfl (fun h => ?_) (fun h => ?_))
    | (apply gateE; first
      | refine Jl.nil (Ej.go ?_ (fun _ _ h => h))
      | (refine Jl.nil (Ej.back (fun _ _ h => h) (by repeat (first | exact .refl | apply DropTo.tail)) ?_); repeat (first | exact trivial | refine ⟨rfl, ?_⟩)))
    | (apply gateC; first
      | refine Cj.condF rfl rfl (Cj.skip rfl (Ej.go ?_ (fun _ _ h => h)))
      | (refine Cj.condF rfl rfl (Cj.skip rfl (Ej.back (fun _ _ h => h) (by repeat (first | exact .refl | apply DropTo.tail)) ?_)); repeat (first | exact trivial | refine ⟨rfl, ?_⟩))
      | refine Cj.condF rfl rfl ?_
      | refine Cj.condT rfl rfl ?_
      | refine Cj.exit rfl (Ej.go ?_ (fun _ _ h => h))
      | refine Cj.cond rfl rfl (fun h => ?_) (fun h => ?_)
      | refine Cj.skip rfl (Ej.go ?_ (fun _ _ h => h))
      | (refine Cj.skip rfl (Ej.back (fun _ _ h => h) (by repeat (first | exact .refl | apply DropTo.tail)) ?_); repeat (first | exact trivial | refine ⟨rfl, ?_⟩))
      | refine Cj.seq rfl ?_
      | refine Cj.region rfl ?_))
  refine Cj.block rfl ?_
  refine Cj.loopP (ι := Nat × List Int × Option Addr × Nat) (fun q => q.1 ≤ xs.length ∧ q.2.1 = cols (xs.take q.1)) (fun q => [(4, .slice q.2.2.1 q.2.1.length q.2.2.2), (11, .slice A0 xs.length c0), (12, .int .i64 (xs.length : Int)), (13, .int .i64 (q.1 : Int))])
    (fun q => [.row KI 3 0 (.slice q.2.2.1 q.2.1.length q.2.2.2) q.2.1]) (fun _ => [(fun W => Kd.C k36 W A0 xs.length xs)]) (fun q => xs.length - q.1) rfl (0, [], some ⟨gr, 0, none⟩, 0) ⟨Nat.zero_le _, rfl⟩ ⟨rfl, rfl, rfl, rfl, trivial⟩ (by repeat (first | exact .nil | refine Pick.cons (by repeat (first | exact .z | apply OutAt.s)) ?_)) (fun p hp => hp) (fun q hi => ?_)
  obtain ⟨i, acc, Ar, cr⟩ := q
  dsimp only at hi ⊢
  obtain ⟨hi, hac⟩ := hi
  have hal : acc.length ≤ i := by
    rw [hac]; exact Nat.le_trans (List.length_filterMap_le _ _) (by rw [List.length_take]; omega)
  by_cases hlt : i < xs.length
  · obtain ⟨ad, rfl⟩ : ∃ ad, A0 = some ad := by
      obtain ⟨ad, e, _⟩ := hr0.2.2 (by omega)
      exact ⟨ad, e⟩
    obtain ⟨x, hx⟩ : ∃ x, xs.getD i z36 = x := ⟨_, rfl⟩
    have hus : ([.int .i64 (xs.getD ((i : Int)).toNat z36).f0, .int .i64 (xs.getD ((i : Int)).toNat z36).f1, .int .i64 (xs.getD ((i : Int)).toNat z36).f2, .int .i64 (xs.getD ((i : Int)).toNat z36).f3] : List Value) = [.int .i64 x.f0, .int .i64 x.f1, .int .i64 x.f2, .int .i64 x.f3] := by
      rw [Int.toNat_natCast, hx]
    have htk : cols (xs.take (i + 1)) = cols (xs.take i) ++ (colOf x).toList := by
      have hg : xs[i]? = some x := by rw [← hx, List.getD_eq_getElem?_getD, List.getElem?_eq_getElem hlt]; rfl
      unfold cols
      rw [List.take_add_one, hg, List.filterMap_append]
      cases hcx : colOf x <;> simp [hcx]
    by_cases h1 : x.f0 = 1
    · have h6 : x.f0 ≠ 6 := by omega
      repeat (first
    | (apply gateO; first
      | refine Jl.yd (Y.mv rfl rfl) rfl rfl rfl ?_
      | refine Jl.yd (Y.asg rfl rfl) rfl rfl rfl ?_
      | refine Jl.yd (Y.ext rfl rfl rfl) rfl rfl rfl ?_
      | refine Jl.yd (Y.pickT rfl rfl rfl) rfl rfl rfl ?_
      | refine Jl.yd (Y.pickF rfl rfl rfl) rfl rfl rfl ?_
      | refine Jl.off rfl rfl rfl ?_
      | refine Jl.yd (Y.cmpF rfl rfl rfl rfl (by omega)) rfl rfl rfl ?_
      | refine Jl.yd (Y.cmpT rfl rfl rfl rfl (by omega)) rfl rfl rfl ?_
      | refine Jl.yd (Y.neqB rfl rfl rfl Try.underlying4) rfl rfl rfl ?_
      | refine Jl.yd (Y.cmp rfl rfl rfl rfl) rfl rfl rfl ?_
      | refine Jl.yd (Y.not rfl rfl) rfl rfl rfl ?_
      | refine Jl.yd (Y.arithN rfl rfl rfl rfl (by omega)) rfl rfl rfl ?_
      | refine Jl.yd (Y.arith64 rfl rfl rfl rfl) rfl rfl rfl ?_
      | refine Jl.yd (Y.loadA rfl rfl agg36 (by repeat (first | exact .head _ | refine .tail _ ?_)) (by rfl)) rfl rfl rfl ?_
      | refine Jl.yd (Y.load1 rfl rfl sc3 (by repeat (first | exact .head _ | refine .tail _ ?_)) (by rfl)) rfl rfl rfl ?_
      | refine Jl.yd (Y.fld0 rfl rfl fld36_0) rfl rfl rfl ?_
      | refine Jl.alloc rfl rfl rfl rfl zero36 (fun g => ?_)
      | refine Jl.storeA rfl rfl rfl rfl rfl sz36 (by repeat (first | exact .z | apply SetAt.s)) (by rfl) (by rfl) ?_
      | refine Jl.yd (Y.idx rfl rfl rfl el25 (by omega) (by omega)) rfl rfl rfl ?_
      | refine Jl.yd (Y.loadK z36 [.int .i64 x.f0, .int .i64 x.f1, .int .i64 x.f2, .int .i64 x.f3] rfl rfl agg36 (by repeat (first | exact .head _ | refine .tail _ ?_)) (i : Int) (by omega) (by omega) (by rfl) (fun w cs h => (k36_open h).trans hus) (by rfl)) rfl rfl rfl ?_
      | refine Jl.yd (Y.fld rfl rfl fld36_1) rfl rfl rfl ?_
      | refine Jl.yd (Y.fld rfl rfl fld36_3) rfl rfl rfl ?_
      | refine Jl.lit1 rfl rfl rfl rfl rfl el29 zero3 rfl (fun gx => ?_)
      | refine Jl.app (dk := KI) (xs := acc) x.f3 (fun _ => False) rfl rfl rfl rfl rfl rfl ap29 (by repeat (first | exact .head _ | refine .tail _ ?_)) rfl (fun w => rfl) (fun u hu => by rw [List.mem_singleton.1 hu]; rfl) (by repeat (first | exact .z | apply OutAt.s)) (by omega) (by omega) (fun Ar' cr' hcr' => ?_)
      | refine Jl.splitG rfl rfl (fun h => ?_) (fun h => ?_))
    | (apply gateE; first
      | refine Jl.nil (Ej.go ?_ (fun _ _ h => h))
      | (refine Jl.nil (Ej.back (fun _ _ h => h) (by repeat (first | exact .refl | apply DropTo.tail)) ?_); repeat (first | exact trivial | refine ⟨rfl, ?_⟩)))
    | (apply gateC; first
      | refine Cj.block rfl ?_
      | refine Cj.condF rfl rfl (Cj.skip rfl (Ej.go ?_ (fun _ _ h => h)))
      | (refine Cj.condF rfl rfl (Cj.skip rfl (Ej.back (fun _ _ h => h) (by repeat (first | exact .refl | apply DropTo.tail)) ?_)); repeat (first | exact trivial | refine ⟨rfl, ?_⟩))
      | refine Cj.condF rfl rfl ?_
      | refine Cj.condT rfl rfl ?_
      | refine Cj.exit rfl (Ej.go ?_ (fun _ _ h => h))
      | refine Cj.cond rfl rfl (fun h => ?_) (fun h => ?_)
      | refine Cj.skip rfl (Ej.go ?_ (fun _ _ h => h))
      | (refine Cj.skip rfl (Ej.back (fun _ _ h => h) (by repeat (first | exact .refl | apply DropTo.tail)) ?_); repeat (first | exact trivial | refine ⟨rfl, ?_⟩))
      | refine Cj.seq rfl ?_
      | refine Cj.region rfl ?_))
      refine Jl.nil (Ej.cutP (ι := Nat × List Int × Option Addr × Nat) _ _ _ _ (fun _ _ h => h) (i + 1, acc ++ [x.f3], Ar', cr') ⟨⟨by omega, by rw [htk, hac]; simp [colOf, h1, h6]⟩, by dsimp only; omega⟩ ⟨rfl, rfl, rfl, rfl, trivial⟩ (by repeat (first | exact .nil | refine Pick.cons (by repeat (first | exact .z | apply OutAt.s)) ?_)) (fun p hp => hp))
    by_cases h6 : x.f0 = 6
    · repeat (first
    | (apply gateO; first
      | refine Jl.yd (Y.mv rfl rfl) rfl rfl rfl ?_
      | refine Jl.yd (Y.asg rfl rfl) rfl rfl rfl ?_
      | refine Jl.yd (Y.ext rfl rfl rfl) rfl rfl rfl ?_
      | refine Jl.yd (Y.pickT rfl rfl rfl) rfl rfl rfl ?_
      | refine Jl.yd (Y.pickF rfl rfl rfl) rfl rfl rfl ?_
      | refine Jl.off rfl rfl rfl ?_
      | refine Jl.yd (Y.cmpF rfl rfl rfl rfl (by omega)) rfl rfl rfl ?_
      | refine Jl.yd (Y.cmpT rfl rfl rfl rfl (by omega)) rfl rfl rfl ?_
      | refine Jl.yd (Y.neqB rfl rfl rfl Try.underlying4) rfl rfl rfl ?_
      | refine Jl.yd (Y.cmp rfl rfl rfl rfl) rfl rfl rfl ?_
      | refine Jl.yd (Y.not rfl rfl) rfl rfl rfl ?_
      | refine Jl.yd (Y.arithN rfl rfl rfl rfl (by omega)) rfl rfl rfl ?_
      | refine Jl.yd (Y.arith64 rfl rfl rfl rfl) rfl rfl rfl ?_
      | refine Jl.yd (Y.loadA rfl rfl agg36 (by repeat (first | exact .head _ | refine .tail _ ?_)) (by rfl)) rfl rfl rfl ?_
      | refine Jl.yd (Y.load1 rfl rfl sc3 (by repeat (first | exact .head _ | refine .tail _ ?_)) (by rfl)) rfl rfl rfl ?_
      | refine Jl.yd (Y.fld0 rfl rfl fld36_0) rfl rfl rfl ?_
      | refine Jl.alloc rfl rfl rfl rfl zero36 (fun g => ?_)
      | refine Jl.storeA rfl rfl rfl rfl rfl sz36 (by repeat (first | exact .z | apply SetAt.s)) (by rfl) (by rfl) ?_
      | refine Jl.yd (Y.idx rfl rfl rfl el25 (by omega) (by omega)) rfl rfl rfl ?_
      | refine Jl.yd (Y.loadK z36 [.int .i64 x.f0, .int .i64 x.f1, .int .i64 x.f2, .int .i64 x.f3] rfl rfl agg36 (by repeat (first | exact .head _ | refine .tail _ ?_)) (i : Int) (by omega) (by omega) (by rfl) (fun w cs h => (k36_open h).trans hus) (by rfl)) rfl rfl rfl ?_
      | refine Jl.yd (Y.fld rfl rfl fld36_1) rfl rfl rfl ?_
      | refine Jl.yd (Y.fld rfl rfl fld36_3) rfl rfl rfl ?_
      | refine Jl.lit1 rfl rfl rfl rfl rfl el29 zero3 rfl (fun gx => ?_)
      | refine Jl.app (dk := KI) (xs := acc) x.f1 (fun _ => False) rfl rfl rfl rfl rfl rfl ap29 (by repeat (first | exact .head _ | refine .tail _ ?_)) rfl (fun w => rfl) (fun u hu => by rw [List.mem_singleton.1 hu]; rfl) (by repeat (first | exact .z | apply OutAt.s)) (by omega) (by omega) (fun Ar' cr' hcr' => ?_)
      | refine Jl.splitG rfl rfl (fun h => ?_) (fun h => ?_))
    | (apply gateE; first
      | refine Jl.nil (Ej.go ?_ (fun _ _ h => h))
      | (refine Jl.nil (Ej.back (fun _ _ h => h) (by repeat (first | exact .refl | apply DropTo.tail)) ?_); repeat (first | exact trivial | refine ⟨rfl, ?_⟩)))
    | (apply gateC; first
      | refine Cj.block rfl ?_
      | refine Cj.condF rfl rfl (Cj.skip rfl (Ej.go ?_ (fun _ _ h => h)))
      | (refine Cj.condF rfl rfl (Cj.skip rfl (Ej.back (fun _ _ h => h) (by repeat (first | exact .refl | apply DropTo.tail)) ?_)); repeat (first | exact trivial | refine ⟨rfl, ?_⟩))
      | refine Cj.condF rfl rfl ?_
      | refine Cj.condT rfl rfl ?_
      | refine Cj.exit rfl (Ej.go ?_ (fun _ _ h => h))
      | refine Cj.cond rfl rfl (fun h => ?_) (fun h => ?_)
      | refine Cj.skip rfl (Ej.go ?_ (fun _ _ h => h))
      | (refine Cj.skip rfl (Ej.back (fun _ _ h => h) (by repeat (first | exact .refl | apply DropTo.tail)) ?_); repeat (first | exact trivial | refine ⟨rfl, ?_⟩))
      | refine Cj.seq rfl ?_
      | refine Cj.region rfl ?_))
      refine Jl.nil (Ej.cutP (ι := Nat × List Int × Option Addr × Nat) _ _ _ _ (fun _ _ h => h) (i + 1, acc ++ [x.f1], Ar', cr') ⟨⟨by omega, by rw [htk, hac]; simp [colOf, h1, h6]⟩, by dsimp only; omega⟩ ⟨rfl, rfl, rfl, rfl, trivial⟩ (by repeat (first | exact .nil | refine Pick.cons (by repeat (first | exact .z | apply OutAt.s)) ?_)) (fun p hp => hp))
    · repeat (first
    | (apply gateO; first
      | refine Jl.yd (Y.mv rfl rfl) rfl rfl rfl ?_
      | refine Jl.yd (Y.asg rfl rfl) rfl rfl rfl ?_
      | refine Jl.yd (Y.ext rfl rfl rfl) rfl rfl rfl ?_
      | refine Jl.yd (Y.pickT rfl rfl rfl) rfl rfl rfl ?_
      | refine Jl.yd (Y.pickF rfl rfl rfl) rfl rfl rfl ?_
      | refine Jl.off rfl rfl rfl ?_
      | refine Jl.yd (Y.cmpF rfl rfl rfl rfl (by omega)) rfl rfl rfl ?_
      | refine Jl.yd (Y.cmpT rfl rfl rfl rfl (by omega)) rfl rfl rfl ?_
      | refine Jl.yd (Y.neqB rfl rfl rfl Try.underlying4) rfl rfl rfl ?_
      | refine Jl.yd (Y.cmp rfl rfl rfl rfl) rfl rfl rfl ?_
      | refine Jl.yd (Y.not rfl rfl) rfl rfl rfl ?_
      | refine Jl.yd (Y.arithN rfl rfl rfl rfl (by omega)) rfl rfl rfl ?_
      | refine Jl.yd (Y.arith64 rfl rfl rfl rfl) rfl rfl rfl ?_
      | refine Jl.yd (Y.loadA rfl rfl agg36 (by repeat (first | exact .head _ | refine .tail _ ?_)) (by rfl)) rfl rfl rfl ?_
      | refine Jl.yd (Y.load1 rfl rfl sc3 (by repeat (first | exact .head _ | refine .tail _ ?_)) (by rfl)) rfl rfl rfl ?_
      | refine Jl.yd (Y.fld0 rfl rfl fld36_0) rfl rfl rfl ?_
      | refine Jl.alloc rfl rfl rfl rfl zero36 (fun g => ?_)
      | refine Jl.storeA rfl rfl rfl rfl rfl sz36 (by repeat (first | exact .z | apply SetAt.s)) (by rfl) (by rfl) ?_
      | refine Jl.yd (Y.idx rfl rfl rfl el25 (by omega) (by omega)) rfl rfl rfl ?_
      | refine Jl.yd (Y.loadK z36 [.int .i64 x.f0, .int .i64 x.f1, .int .i64 x.f2, .int .i64 x.f3] rfl rfl agg36 (by repeat (first | exact .head _ | refine .tail _ ?_)) (i : Int) (by omega) (by omega) (by rfl) (fun w cs h => (k36_open h).trans hus) (by rfl)) rfl rfl rfl ?_
      | refine Jl.yd (Y.fld rfl rfl fld36_1) rfl rfl rfl ?_
      | refine Jl.yd (Y.fld rfl rfl fld36_3) rfl rfl rfl ?_
      | refine Jl.lit1 rfl rfl rfl rfl rfl el29 zero3 rfl (fun gx => ?_)
      | refine Jl.splitG rfl rfl (fun h => ?_) (fun h => ?_))
    | (apply gateE; first
      | refine Jl.nil (Ej.go ?_ (fun _ _ h => h))
      | (refine Jl.nil (Ej.back (fun _ _ h => h) (by repeat (first | exact .refl | apply DropTo.tail)) ?_); repeat (first | exact trivial | refine ⟨rfl, ?_⟩)))
    | (apply gateC; first
      | refine Cj.block rfl ?_
      | refine Cj.condF rfl rfl (Cj.skip rfl (Ej.go ?_ (fun _ _ h => h)))
      | (refine Cj.condF rfl rfl (Cj.skip rfl (Ej.back (fun _ _ h => h) (by repeat (first | exact .refl | apply DropTo.tail)) ?_)); repeat (first | exact trivial | refine ⟨rfl, ?_⟩))
      | refine Cj.condF rfl rfl ?_
      | refine Cj.condT rfl rfl ?_
      | refine Cj.exit rfl (Ej.go ?_ (fun _ _ h => h))
      | refine Cj.cond rfl rfl (fun h => ?_) (fun h => ?_)
      | refine Cj.skip rfl (Ej.go ?_ (fun _ _ h => h))
      | (refine Cj.skip rfl (Ej.back (fun _ _ h => h) (by repeat (first | exact .refl | apply DropTo.tail)) ?_); repeat (first | exact trivial | refine ⟨rfl, ?_⟩))
      | refine Cj.seq rfl ?_
      | refine Cj.region rfl ?_))
      refine Jl.nil (Ej.cutP (ι := Nat × List Int × Option Addr × Nat) _ _ _ _ (fun _ _ h => h) (i + 1, acc, Ar, cr) ⟨⟨by omega, by rw [htk, hac]; simp [colOf, h1, h6]⟩, by dsimp only; omega⟩ ⟨rfl, rfl, rfl, rfl, trivial⟩ (by repeat (first | exact .nil | refine Pick.cons (by repeat (first | exact .z | apply OutAt.s)) ?_)) (fun p hp => hp))
  · obtain rfl : i = xs.length := by omega
    rw [List.take_length] at hac
    repeat (first
    | (apply gateO; first
      | refine Jl.yd (Y.mv rfl rfl) rfl rfl rfl ?_
      | refine Jl.yd (Y.asg rfl rfl) rfl rfl rfl ?_
      | refine Jl.yd (Y.ext rfl rfl rfl) rfl rfl rfl ?_
      | refine Jl.yd (Y.pickT rfl rfl rfl) rfl rfl rfl ?_
      | refine Jl.yd (Y.pickF rfl rfl rfl) rfl rfl rfl ?_
      | refine Jl.off rfl rfl rfl ?_
      | refine Jl.yd (Y.cmpF rfl rfl rfl rfl (by omega)) rfl rfl rfl ?_
      | refine Jl.yd (Y.cmpT rfl rfl rfl rfl (by omega)) rfl rfl rfl ?_
      | refine Jl.yd (Y.neqB rfl rfl rfl Try.underlying4) rfl rfl rfl ?_
      | refine Jl.yd (Y.cmp rfl rfl rfl rfl) rfl rfl rfl ?_
      | refine Jl.yd (Y.not rfl rfl) rfl rfl rfl ?_
      | refine Jl.yd (Y.arithN rfl rfl rfl rfl (by omega)) rfl rfl rfl ?_
      | refine Jl.yd (Y.arith64 rfl rfl rfl rfl) rfl rfl rfl ?_
      | refine Jl.callM (.row KI 3 0 (.slice Ar acc.length cr) acc) (.row KI 3 0 (.slice Ar (sortI acc).length cr) (sortI acc)) (v := .tuple #[]) rfl rfl rfl rfl en23 rfl (by repeat (first | exact .z | apply SetAt.s)) (fun w A hW hA => by with_reducible exact sort_ _ _ _ _ hA (by omega)) ?_
      | refine Jl.callM (.row KI 3 0 (.slice Ar (sortI acc).length cr) (sortI acc)) (.row KI 3 0 (.slice Ar (Lib.compact (sortI acc)).length cr) (Lib.compact (sortI acc))) (v := .slice Ar (Lib.compact (sortI acc)).length cr) rfl rfl rfl rfl en24 rfl (by repeat (first | exact .z | apply SetAt.s)) (fun w A hW hA => by with_reducible exact comp_ _ _ _ _ hA (by omega)) ?_
      | refine Jl.splitG rfl rfl (fun h => ?_) (fun h => ?_))
    | (apply gateE; first
      | refine Jl.nil (Ej.go ?_ (fun _ _ h => h))
      | (refine Jl.nil (Ej.back (fun _ _ h => h) (by repeat (first | exact .refl | apply DropTo.tail)) ?_); repeat (first | exact trivial | refine ⟨rfl, ?_⟩)))
    | (apply gateC; first
      | refine Cj.ret rfl (Ej.out2 (P := Try.prog) (fn := Try.f11) (R := Rr) (fun _ _ h => h) rfl rfl rfl (fun w' hW => ?_))
      | refine Cj.condF rfl rfl (Cj.skip rfl (Ej.go ?_ (fun _ _ h => h)))
      | (refine Cj.condF rfl rfl (Cj.skip rfl (Ej.back (fun _ _ h => h) (by repeat (first | exact .refl | apply DropTo.tail)) ?_)); repeat (first | exact trivial | refine ⟨rfl, ?_⟩))
      | refine Cj.condF rfl rfl ?_
      | refine Cj.condT rfl rfl ?_
      | refine Cj.exit rfl (Ej.go ?_ (fun _ _ h => h))
      | refine Cj.cond rfl rfl (fun h => ?_) (fun h => ?_)
      | refine Cj.skip rfl (Ej.go ?_ (fun _ _ h => h))
      | (refine Cj.skip rfl (Ej.back (fun _ _ h => h) (by repeat (first | exact .refl | apply DropTo.tail)) ?_); repeat (first | exact trivial | refine ⟨rfl, ?_⟩))
      | refine Cj.seq rfl ?_
      | refine Cj.region rfl ?_))
    have hO := outI hW
    have hb := hW.below
    rw [hac] at hO ⊢
    exact ⟨_, rfl, hO, hb⟩
end Col
end Go.Proofs.Ytacimfnaacdobaa.CU
