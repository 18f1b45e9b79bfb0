import Derived.Test.YtkglpfdoefdhdaaSLN
import Derived.Test.YtkglpfdoefdhdaaXSS
import Derived.Test.YtkglpfdoefdhdaaME
import Derived.Test.YtkglpfdoefdhdaaQx29
import Derived.Test.YtkglpfdoefdhdaaQx8888801
import Derived.KernelRfl
namespace Go.Proofs.Ytkglpfdoefdhdaa.WK
open Go Go.RowKit Go.Proofs.Ytkglpfdoefdhdaa.Q Go.Proofs.Ytkglpfdoefdhdaa.M Go.Proofs.YtkglpfdoefdhdaaW.PrintWords Go.Proofs.YtkglpfdoefdhdaaW.Pl Go.Proofs.YtkglpfdoefdhdaaW.SL
set_option linter.unusedSimpArgs false
set_option linter.unusedVariables false
set_option maxRecDepth 100000
namespace SK
theorem agg46 : AggT Try.prog 46 3 := ⟨by kernel_rfl⟩
theorem agg26 : AggT Try.prog 26 3 := ⟨by kernel_rfl⟩
theorem sz26 : SzT Try.prog 26 3 := ⟨by kernel_rfl⟩
theorem zero26 : ZeroT Try.prog 26 [.int .i64 0, .int .i64 0, .slice none 0 0] := ⟨by kernel_rfl⟩
theorem en27 : Ent Try.prog 27 := ⟨enters_of Try.func27 (by kernel_rfl) rfl⟩
theorem en40 : Ent Try.prog 40 := ⟨enters_of Try.func40 (by kernel_rfl) rfl⟩
theorem en29 : Ent Try.prog 29 := ⟨enters_of Try.func29 (by kernel_rfl) rfl⟩
theorem en42 : Ent Try.prog 42 := ⟨enters_of Try.func42 (by kernel_rfl) rfl⟩
theorem en41 : Ent Try.prog 41 := ⟨enters_of Try.func41 (by kernel_rfl) rfl⟩
theorem en43 : Ent Try.prog 43 := ⟨enters_of Try.func43 (by kernel_rfl) rfl⟩
theorem en44 : Ent Try.prog 44 := ⟨enters_of Try.func44 (by kernel_rfl) rfl⟩
theorem en33 : Ent Try.prog 33 := ⟨enters_of Try.func33 (by kernel_rfl) rfl⟩
theorem en45 : Ent Try.prog 45 := ⟨enters_of Try.func45 (by kernel_rfl) rfl⟩
theorem en34 : Ent Try.prog 34 := ⟨enters_of Try.func34 (by kernel_rfl) rfl⟩
theorem en46 : Ent Try.prog 46 := ⟨enters_of Try.func46 (by kernel_rfl) rfl⟩
theorem en47 : Ent Try.prog 47 := ⟨enters_of Try.func47 (by kernel_rfl) rfl⟩
theorem en48 : Ent Try.prog 48 := ⟨enters_of Try.func48 (by kernel_rfl) rfl⟩
theorem mixed : Try.prog.follows .mixedOrders = true := by kernel_rfl
theorem held_n {k n c : Nat} {l : List (List Int)} {r : Int} {w : World} {A : Option Addr} (hn : n = l.length) (hr : Kd.C (Kd.slice 3 (Kd.int .i64)) w A l.length l) (hc : l.length ≤ c) (h : laws_heldIntSS.f k l 1 = some r) : Calls Try.prog 48 #[.slice A n c, .int .i64 1] w fun e w' => e = .returned (.int .i64 r) ∧ Below w.heap.size w w' := by
  subst hn
  exact (laws_heldIntSS.calls k A c l 1 r w hr hc h).mono (fun _ _ hh => ⟨hh.1, hh.2.below⟩)
set_option maxHeartbeats 2000000 in
theorem walkA (wd ht : Int) (cs : List Int) (l0 : List S73) (A0 : Option Addr) (c0 : Nat) (A1 : Option Addr) (c1 : Nat) (w : World) (hr0 : Kd.C (Kd.int .i64) w A0 cs.length cs) (hc0 : cs.length ≤ c0) (hr1 : Kd.C k73 w A1 l0.length l0) (hc1 : l0.length ≤ c1) (r : Int) (hz : laws_szChart.f wd ht cs 1048576 = some r) (hr : r < 0) : Calls Try.prog 6 #[.agg #[.int .i64 wd, .int .i64 ht, .slice A0 cs.length c0], .slice A1 l0.length c1] w fun e w' => e = .returned (.bool true) ∧ Below w.heap.size w w' := by
  refine enterW (args := [.agg #[.int .i64 wd, .int .i64 ht, .slice A0 cs.length c0], .slice A1 l0.length c1]) [(fun W => Kd.C (Kd.int .i64) W A0 cs.length cs), (fun W => Kd.C k73 W A1 l0.length l0)] (fun p hp W hb => by
    rcases List.mem_cons.1 hp with rfl | hp
    · exact Kd.C_below hr0 hb
    · rw [List.mem_singleton.1 hp]; exact Kd.C_below hr1 hb) Try.func6 rfl rfl ?_
  repeat (first
    | (apply gateO; first
      | refine Jl.yd (Y.mv rfl rfl) rfl rfl rfl ?_
      | refine Jl.yd (Y.asg rfl rfl) rfl rfl rfl ?_
      | refine Jl.yd (Y.ext rfl rfl rfl) rfl rfl rfl ?_
      | refine Jl.yd (Y.pickT rfl rfl rfl) rfl rfl rfl ?_
      | refine Jl.yd (Y.pickF rfl rfl rfl) rfl rfl rfl ?_
      | refine Jl.off rfl rfl rfl ?_
      | refine Jl.yd (Y.cmpF rfl rfl rfl rfl (by omega)) rfl rfl rfl ?_
      | refine Jl.yd (Y.cmpT rfl rfl rfl rfl (by omega)) rfl rfl rfl ?_
      | refine Jl.yd (Y.neqB rfl rfl rfl Try.underlying4) rfl rfl rfl ?_
      | refine Jl.yd (Y.cmp rfl rfl rfl rfl) rfl rfl rfl ?_
      | refine Jl.yd (Y.not rfl rfl) rfl rfl rfl ?_
      | refine Jl.yd (Y.arithN rfl rfl rfl rfl (by omega)) rfl rfl rfl ?_
      | refine Jl.yd (Y.arith64 rfl rfl rfl rfl) rfl rfl rfl ?_
      | refine Jl.yd (Y.loadA rfl rfl agg46 (by repeat (first | exact .head _ | refine .tail _ ?_)) (by rfl)) rfl rfl rfl ?_
      | refine Jl.yd (Y.loadA rfl rfl agg26 (by repeat (first | exact .head _ | refine .tail _ ?_)) (by rfl)) rfl rfl rfl ?_
      | refine Jl.alloc rfl rfl rfl rfl zero26 (fun g => ?_)
      | refine Jl.storeA rfl rfl rfl rfl rfl sz26 (by repeat (first | exact .z | apply SetAt.s)) (by rfl) (by rfl) ?_
      | refine Jl.call1 (v := .int .i64 r) rfl rfl rfl rfl en27 rfl (fun w hW => by with_reducible exact laws_szChart.calls wd ht _ _ cs 1048576 r w (hW.fact (p := (fun W => Kd.C (Kd.int .i64) W A0 cs.length cs)) (by repeat (first | exact memH | refine memT ?_))) hc0 hz) ?_
      | refine Jl.box (zs := [.int .i64 wd, .int .i64 ht, .slice A0 cs.length c0]) rfl rfl rfl rfl rfl (by rfl) (fun g => ?_)
      | refine Jl.splitG rfl rfl (fun h => ?_) (fun h => ?_))
    | (apply gateE; first
      | refine Jl.nil (Ej.go ?_ (fun _ _ h => h))
      | (refine Jl.nil (Ej.back (fun _ _ h => h) (by repeat (first | exact .refl | apply DropTo.tail)) ?_); repeat (first | exact trivial | refine ⟨rfl, ?_⟩)))
    | (apply gateC; first
      | refine Cj.ret rfl (Ej.out1 (P := Try.prog) (fn := Try.f6) (R := fun e w' => e = .returned (.bool true) ∧ Below w.heap.size w w') (fun _ _ h => h) rfl rfl (fun w hW => ⟨rfl, hW.below⟩))
      | refine Cj.condF rfl rfl (Cj.skip rfl (Ej.go ?_ (fun _ _ h => h)))
      | (refine Cj.condF rfl rfl (Cj.skip rfl (Ej.back (fun _ _ h => h) (by repeat (first | exact .refl | apply DropTo.tail)) ?_)); repeat (first | exact trivial | refine ⟨rfl, ?_⟩))
      | refine Cj.condF rfl rfl ?_
      | refine Cj.condT rfl rfl ?_
      | refine Cj.exit rfl (Ej.go ?_ (fun _ _ h => h))
      | refine Cj.cond rfl rfl (fun h => ?_) (fun h => ?_)
      | refine Cj.skip rfl (Ej.go ?_ (fun _ _ h => h))
      | (refine Cj.skip rfl (Ej.back (fun _ _ h => h) (by repeat (first | exact .refl | apply DropTo.tail)) ?_); repeat (first | exact trivial | refine ⟨rfl, ?_⟩))
      | refine Cj.seq rfl ?_
      | refine Cj.region rfl ?_))

set_option maxHeartbeats 2000000 in
theorem walkB (wd ht : Int) (cs : List Int) (l0 : List S73) (A0 : Option Addr) (c0 : Nat) (A1 : Option Addr) (c1 : Nat) (w : World) (hr0 : Kd.C (Kd.int .i64) w A0 cs.length cs) (hc0 : cs.length ≤ c0) (hr1 : Kd.C k73 w A1 l0.length l0) (hc1 : l0.length ≤ c1) (r r2 : Int) (hz : laws_szChart.f wd ht cs 1048576 = some r) (hr : ¬ r < 0) (hz2 : laws_szHoleS.f l0 r = some r2) (hr2 : r2 < 0) : Calls Try.prog 6 #[.agg #[.int .i64 wd, .int .i64 ht, .slice A0 cs.length c0], .slice A1 l0.length c1] w fun e w' => e = .returned (.bool true) ∧ Below w.heap.size w w' := by
  refine enterW (args := [.agg #[.int .i64 wd, .int .i64 ht, .slice A0 cs.length c0], .slice A1 l0.length c1]) [(fun W => Kd.C (Kd.int .i64) W A0 cs.length cs), (fun W => Kd.C k73 W A1 l0.length l0)] (fun p hp W hb => by
    rcases List.mem_cons.1 hp with rfl | hp
    · exact Kd.C_below hr0 hb
    · rw [List.mem_singleton.1 hp]; exact Kd.C_below hr1 hb) Try.func6 rfl rfl ?_
  repeat (first
    | (apply gateO; first
      | refine Jl.yd (Y.mv rfl rfl) rfl rfl rfl ?_
      | refine Jl.yd (Y.asg rfl rfl) rfl rfl rfl ?_
      | refine Jl.yd (Y.ext rfl rfl rfl) rfl rfl rfl ?_
      | refine Jl.yd (Y.pickT rfl rfl rfl) rfl rfl rfl ?_
      | refine Jl.yd (Y.pickF rfl rfl rfl) rfl rfl rfl ?_
      | refine Jl.off rfl rfl rfl ?_
      | refine Jl.yd (Y.cmpF rfl rfl rfl rfl (by omega)) rfl rfl rfl ?_
      | refine Jl.yd (Y.cmpT rfl rfl rfl rfl (by omega)) rfl rfl rfl ?_
      | refine Jl.yd (Y.neqB rfl rfl rfl Try.underlying4) rfl rfl rfl ?_
      | refine Jl.yd (Y.cmp rfl rfl rfl rfl) rfl rfl rfl ?_
      | refine Jl.yd (Y.not rfl rfl) rfl rfl rfl ?_
      | refine Jl.yd (Y.arithN rfl rfl rfl rfl (by omega)) rfl rfl rfl ?_
      | refine Jl.yd (Y.arith64 rfl rfl rfl rfl) rfl rfl rfl ?_
      | refine Jl.yd (Y.loadA rfl rfl agg46 (by repeat (first | exact .head _ | refine .tail _ ?_)) (by rfl)) rfl rfl rfl ?_
      | refine Jl.yd (Y.loadA rfl rfl agg26 (by repeat (first | exact .head _ | refine .tail _ ?_)) (by rfl)) rfl rfl rfl ?_
      | refine Jl.alloc rfl rfl rfl rfl zero26 (fun g => ?_)
      | refine Jl.storeA rfl rfl rfl rfl rfl sz26 (by repeat (first | exact .z | apply SetAt.s)) (by rfl) (by rfl) ?_
      | refine Jl.call1 (v := .int .i64 r) rfl rfl rfl rfl en27 rfl (fun w hW => by with_reducible exact laws_szChart.calls wd ht _ _ cs 1048576 r w (hW.fact (p := (fun W => Kd.C (Kd.int .i64) W A0 cs.length cs)) (by repeat (first | exact memH | refine memT ?_))) hc0 hz) ?_
      | refine Jl.call1 (v := .int .i64 r2) rfl rfl rfl rfl en40 rfl (fun w hW => by with_reducible exact Calls.mono (laws_szHoleS.calls _ _ l0 r r2 w (hW.fact (p := (fun W => Kd.C k73 W A1 l0.length l0)) (by repeat (first | exact memH | refine memT ?_))) hc1 hz2) (fun _ _ hh => ⟨hh.1, hh.2.below⟩)) ?_
      | refine Jl.box (zs := [.int .i64 wd, .int .i64 ht, .slice A0 cs.length c0]) rfl rfl rfl rfl rfl (by rfl) (fun g => ?_)
      | refine Jl.splitG rfl rfl (fun h => ?_) (fun h => ?_))
    | (apply gateE; first
      | refine Jl.nil (Ej.go ?_ (fun _ _ h => h))
      | (refine Jl.nil (Ej.back (fun _ _ h => h) (by repeat (first | exact .refl | apply DropTo.tail)) ?_); repeat (first | exact trivial | refine ⟨rfl, ?_⟩)))
    | (apply gateC; first
      | refine Cj.ret rfl (Ej.out1 (P := Try.prog) (fn := Try.f6) (R := fun e w' => e = .returned (.bool true) ∧ Below w.heap.size w w') (fun _ _ h => h) rfl rfl (fun w hW => ⟨rfl, hW.below⟩))
      | refine Cj.condF rfl rfl (Cj.skip rfl (Ej.go ?_ (fun _ _ h => h)))
      | (refine Cj.condF rfl rfl (Cj.skip rfl (Ej.back (fun _ _ h => h) (by repeat (first | exact .refl | apply DropTo.tail)) ?_)); repeat (first | exact trivial | refine ⟨rfl, ?_⟩))
      | refine Cj.condF rfl rfl ?_
      | refine Cj.condT rfl rfl ?_
      | refine Cj.exit rfl (Ej.go ?_ (fun _ _ h => h))
      | refine Cj.cond rfl rfl (fun h => ?_) (fun h => ?_)
      | refine Cj.skip rfl (Ej.go ?_ (fun _ _ h => h))
      | (refine Cj.skip rfl (Ej.back (fun _ _ h => h) (by repeat (first | exact .refl | apply DropTo.tail)) ?_); repeat (first | exact trivial | refine ⟨rfl, ?_⟩))
      | refine Cj.seq rfl ?_
      | refine Cj.region rfl ?_))

set_option maxHeartbeats 8000000 in
theorem walkC (wd ht : Int) (cs : List Int) (l0 : List S73) (A0 : Option Addr) (c0 : Nat) (A1 : Option Addr) (c1 : Nat) (w : World) (hr0 : Kd.C (Kd.int .i64) w A0 cs.length cs) (hc0 : cs.length ≤ c0) (hr1 : Kd.C k73 w A1 l0.length l0) (hc1 : l0.length ≤ c1) (r r2 : Int) (hz : laws_szChart.f wd ht cs 1048576 = some r) (hr : ¬ r < 0) (hz2 : laws_szHoleS.f l0 r = some r2) (hr2 : ¬ r2 < 0)
    (l l' : List S76) (cs' : List Int) (q : List (List Int)) (qb : Bool) (kt kh ks ki ke kc kq km kn kx : Nat) (r3 r4 : Int) (htc : laws_toChart.f kt wd ht cs = some (wd, ht, cs)) (hth : laws_toHoleS.f kh l0 = some l) (hs : spec_ShareKnots.f ks wd ht cs l = some (q, qb)) (hi : impl_ShareKnots.f ki wd ht cs l = some (q, qb)) (he : laws_eqIntSS.f ke q q = some true) (hqc : laws_eqChart.f kc wd ht cs wd ht cs = some true) (hqh : laws_eqHoleS.f kq l l = some true)
    (hmc : laws_markChart.f km wd ht cs 1 = some (r3, cs')) (hmh : laws_markHoleS.f kn l r3 = some (r4, l')) (hr4 : ¬ r4 < 0) (hq1 : q.length ≤ 1048576) (hq2 : ∀ i, i < q.length → (nth q i []).length ≤ 1048576) (hhe : laws_heldIntSS.f kx (markSS q 1) 1 = some ((kS q 1 q.length : Nat) : Int)) : Calls Try.prog 6 #[.agg #[.int .i64 wd, .int .i64 ht, .slice A0 cs.length c0], .slice A1 l0.length c1] w fun e w' => e = .returned (.bool true) ∧ Below w.heap.size w w' := by
  refine enterW (args := [.agg #[.int .i64 wd, .int .i64 ht, .slice A0 cs.length c0], .slice A1 l0.length c1]) [(fun W => Kd.C (Kd.int .i64) W A0 cs.length cs), (fun W => Kd.C k73 W A1 l0.length l0)] (fun p hp W hb => by
    rcases List.mem_cons.1 hp with rfl | hp
    · exact Kd.C_below hr0 hb
    · rw [List.mem_singleton.1 hp]; exact Kd.C_below hr1 hb) Try.func6 rfl rfl ?_
  repeat (first
    | (apply gateO; first
      | refine Jl.yd (Y.mv rfl rfl) rfl rfl rfl ?_
      | refine Jl.yd (Y.asg rfl rfl) rfl rfl rfl ?_
      | refine Jl.yd (Y.ext rfl rfl rfl) rfl rfl rfl ?_
      | refine Jl.yd (Y.pickT rfl rfl rfl) rfl rfl rfl ?_
      | refine Jl.yd (Y.pickF rfl rfl rfl) rfl rfl rfl ?_
      | refine Jl.off rfl rfl rfl ?_
      | refine Jl.yd (Y.cmpF rfl rfl rfl rfl (by omega)) rfl rfl rfl ?_
      | refine Jl.yd (Y.cmpT rfl rfl rfl rfl (by omega)) rfl rfl rfl ?_
      | refine Jl.yd (Y.neqB rfl rfl rfl Try.underlying4) rfl rfl rfl ?_
      | refine Jl.yd (Y.cmp rfl rfl rfl rfl) rfl rfl rfl ?_
      | refine Jl.yd (Y.not rfl rfl) rfl rfl rfl ?_
      | refine Jl.yd (Y.arithN rfl rfl rfl rfl (by omega)) rfl rfl rfl ?_
      | refine Jl.yd (Y.arith64 rfl rfl rfl rfl) rfl rfl rfl ?_
      | refine Jl.yd (Y.loadA rfl rfl agg46 (by repeat (first | exact .head _ | refine .tail _ ?_)) (by rfl)) rfl rfl rfl ?_
      | refine Jl.yd (Y.loadA rfl rfl agg26 (by repeat (first | exact .head _ | refine .tail _ ?_)) (by rfl)) rfl rfl rfl ?_
      | refine Jl.alloc rfl rfl rfl rfl zero26 (fun g => ?_)
      | refine Jl.storeA rfl rfl rfl rfl rfl sz26 (by repeat (first | exact .z | apply SetAt.s)) (by rfl) (by rfl) ?_
      | refine Jl.call1 (v := .int .i64 r) rfl rfl rfl rfl en27 rfl (fun w hW => by with_reducible exact laws_szChart.calls wd ht _ _ cs 1048576 r w (hW.fact (p := (fun W => Kd.C (Kd.int .i64) W A0 cs.length cs)) (by repeat (first | exact memH | refine memT ?_))) hc0 hz) ?_
      | refine Jl.call1 (v := .int .i64 r2) rfl rfl rfl rfl en40 rfl (fun w hW => by with_reducible exact Calls.mono (laws_szHoleS.calls _ _ l0 r r2 w (hW.fact (p := (fun W => Kd.C k73 W A1 l0.length l0)) (by repeat (first | exact memH | refine memT ?_))) hc1 hz2) (fun _ _ hh => ⟨hh.1, hh.2.below⟩)) ?_
      | refine Jl.callR 0 (fun v => .agg #[.int .i64 wd, .int .i64 ht, v]) rfl rfl rfl rfl en29 rfl (fun w hW => by with_reducible exact laws_toChart.calls kt wd ht _ _ cs wd ht cs w (hW.fact (p := (fun W => Kd.C (Kd.int .i64) W A0 cs.length cs)) (by repeat (first | exact memH | refine memT ?_))) hc0 htc) (fun A c hl => ?_)
      | refine Jl.callR 0 (fun v => v) rfl rfl rfl rfl en42 rfl (fun w hW => by with_reducible exact laws_toHoleS.calls kh _ _ l0 l w (hW.fact (p := (fun W => Kd.C k73 W A1 l0.length l0)) (by repeat (first | exact memH | refine memT ?_))) hc1 hth) (fun A c hl => ?_)
      | refine Jl.callRS (fun v => .tuple #[v, .bool qb]) rfl rfl rfl rfl en41 rfl (fun w hW => by with_reducible exact spec_ShareKnots.calls ks wd ht _ _ cs _ _ l q qb w (hW.rowC (by repeat (first | exact memH | refine memT ?_))) (hW.rowCap (by repeat (first | exact memH | refine memT ?_))).2 (hW.rowC (by repeat (first | exact memH | refine memT ?_))) (hW.rowCap (by repeat (first | exact memH | refine memT ?_))).2 hs) (fun A c hl => ?_)
      | refine Jl.callRS (fun v => .tuple #[v, .bool qb]) rfl rfl rfl rfl en43 rfl (fun w hW => by with_reducible exact impl_ShareKnots.calls ki wd ht _ _ cs _ _ l q qb w (hW.rowC (by repeat (first | exact memH | refine memT ?_))) (hW.rowCap (by repeat (first | exact memH | refine memT ?_))).2 (hW.rowC (by repeat (first | exact memH | refine memT ?_))) (hW.rowCap (by repeat (first | exact memH | refine memT ?_))).2 hi) (fun A c hl => ?_)
      | refine Jl.call1 (v := .bool true) rfl rfl rfl rfl en44 rfl (fun w hW => by with_reducible exact Calls.mono (laws_eqIntSS.calls ke _ _ q _ _ q true w (hW.rowSC (by repeat (first | exact memH | refine memT ?_))) (hW.rowSCap (by repeat (first | exact memH | refine memT ?_))).2 (hW.rowSC (by repeat (first | exact memH | refine memT ?_))) (hW.rowSCap (by repeat (first | exact memH | refine memT ?_))).2 he) (fun _ _ hh => ⟨hh.1, hh.2.below⟩)) ?_
      | refine Jl.call1 (v := .bool true) rfl rfl rfl rfl en33 rfl (fun w hW => by with_reducible exact laws_eqChart.calls kc wd ht _ _ cs wd ht _ _ cs true w (hW.rowC (by repeat (first | exact memH | refine memT ?_))) (hW.rowCap (by repeat (first | exact memH | refine memT ?_))).2 (hW.rowC (by repeat (first | exact memH | refine memT ?_))) (hW.rowCap (by repeat (first | exact memH | refine memT ?_))).2 hqc) ?_
      | refine Jl.call1 (v := .bool true) rfl rfl rfl rfl en45 rfl (fun w hW => by with_reducible exact laws_eqHoleS.calls kq _ _ l _ _ l true w (hW.rowC (by repeat (first | exact memH | refine memT ?_))) (hW.rowCap (by repeat (first | exact memH | refine memT ?_))).2 (hW.rowC (by repeat (first | exact memH | refine memT ?_))) (hW.rowCap (by repeat (first | exact memH | refine memT ?_))).2 hqh) ?_
      | refine Jl.callMc (r := .int .i64 r3) (fun v => .row (Kd.int .i64) 3 0 v cs) (fun v => .row (Kd.int .i64) 3 0 v cs') rfl rfl rfl rfl en34 rfl (by repeat (first | exact .z | apply SetAt.s)) (fun w A hW hA => of_kept hA (fun P0 w0 hB hR => laws_markChart.calls km wd ht P0 _ cs _ _ _ w0 w hB hR hmc)) ?_
      | refine Jl.callMv (v := .int .i64 r4) (fun v => .row k76 76 0 v l) (fun v => .row k76 76 0 v l') rfl rfl rfl rfl en46 rfl (by repeat (first | exact .z | apply SetAt.s)) (fun w A hW hA => of_kept hA (fun P0 w0 hB hR => laws_markHoleS.calls kn P0 _ l _ _ _ w0 w hB hR hmh)) ?_
      | refine Jl.callMv (v := .int .i64 ((kS q 1 q.length : Nat) : Int)) (fun v => .rowS MSS.KSL 24 0 v q) (fun v => .rowS MSS.KSL 24 0 v (markSS q 1)) rfl rfl rfl rfl en47 rfl (by repeat (first | exact .z | apply SetAt.s)) (fun w A hW hA => MSS.calls w A _ q 1 (by omega) hq1 hq2 hA) ?_
      | refine Jl.call1 (v := .int .i64 ((kS q 1 q.length : Nat) : Int)) rfl rfl rfl rfl en48 rfl (fun w hW => by with_reducible exact held_n (hW.rowSCap (by repeat (first | exact memH | refine memT ?_))).1 (hW.rowSC (by repeat (first | exact memH | refine memT ?_))) (hW.rowSCap (by repeat (first | exact memH | refine memT ?_))).2 hhe) ?_
      | refine Jl.box (zs := [.int .i64 wd, .int .i64 ht, .slice A0 cs.length c0]) rfl rfl rfl rfl rfl (by rfl) (fun g => ?_)
      | refine Jl.splitG rfl rfl (fun h => ?_) (fun h => ?_))
    | (apply gateE; first
      | refine Jl.nil (Ej.go ?_ (fun _ _ h => h))
      | (refine Jl.nil (Ej.back (fun _ _ h => h) (by repeat (first | exact .refl | apply DropTo.tail)) ?_); repeat (first | exact trivial | refine ⟨rfl, ?_⟩)))
    | (apply gateC; first
      | refine Cj.regionD rfl (mkD [0, 1, 4] []) [] [0, 1, 2, 3, 4] mixed (by decide +kernel) ?_
      | refine Cj.ret rfl (Ej.out1 (P := Try.prog) (fn := Try.f6) (R := fun e w' => e = .returned (.bool true) ∧ Below w.heap.size w w') (fun _ _ h => h) rfl rfl (fun w hW => ⟨rfl, hW.below⟩))
      | refine Cj.condF rfl rfl (Cj.skip rfl (Ej.go ?_ (fun _ _ h => h)))
      | (refine Cj.condF rfl rfl (Cj.skip rfl (Ej.back (fun _ _ h => h) (by repeat (first | exact .refl | apply DropTo.tail)) ?_)); repeat (first | exact trivial | refine ⟨rfl, ?_⟩))
      | refine Cj.condF rfl rfl ?_
      | refine Cj.condT rfl rfl ?_
      | refine Cj.exit rfl (Ej.go ?_ (fun _ _ h => h))
      | refine Cj.cond rfl rfl (fun h => ?_) (fun h => ?_)
      | refine Cj.skip rfl (Ej.go ?_ (fun _ _ h => h))
      | (refine Cj.skip rfl (Ej.back (fun _ _ h => h) (by repeat (first | exact .refl | apply DropTo.tail)) ?_); repeat (first | exact trivial | refine ⟨rfl, ?_⟩))
      | refine Cj.seq rfl ?_
      | refine Cj.region rfl ?_))

/-- The program's ShareKnots returns what the reference's returns. -/
theorem full (wd ht : Int) (cs : List Int) (l0 : List S73) (A0 : Option Addr) (c0 : Nat) (A1 : Option Addr) (c1 : Nat) (w : World) (hr0 : Kd.C (Kd.int .i64) w A0 cs.length cs) (hc0 : cs.length ≤ c0) (hr1 : Kd.C k73 w A1 l0.length l0) (hc1 : l0.length ≤ c1) (hm0 : cs.length ≤ maxLen) (hm1 : l0.length ≤ maxLen) : Calls Try.prog 6 #[.agg #[.int .i64 wd, .int .i64 ht, .slice A0 cs.length c0], .slice A1 l0.length c1] w fun e w' => e = .returned (.bool true) ∧ Below w.heap.size w w' := by
  obtain ⟨r, hz, hr⟩ := szChart wd ht cs 1048576 hm0 (by omega)
  by_cases h1 : r < 0
  · exact walkA wd ht cs l0 A0 c0 A1 c1 w hr0 hc0 hr1 hc1 r hz h1
  obtain ⟨h2, h3, hcs⟩ := hr.resolve_left h1
  obtain ⟨r2, hz2, hr2⟩ := szHoles l0 r hm1 ⟨h2, h3⟩
  by_cases h4 : r2 < 0
  · exact walkB wd ht cs l0 A0 c0 A1 c1 w hr0 hc0 hr1 hc1 r r2 hz h1 hz2 h4
  obtain ⟨_, _, hls⟩ := hr2.resolve_left h4
  obtain ⟨kt, e1⟩ := (toChart wd ht cs hcs).rounds
  obtain ⟨kh, e2⟩ := (toHoles l0 hls).rounds
  have hl : (l0.map cvHole).length ≤ 1048576 := by simpa using hls
  generalize l0.map cvHole = l at e2 hl
  obtain ⟨q, ⟨p1, p2⟩, hS, hI⟩ := shareBoth wd ht cs l hcs hl
  obtain ⟨ks, e3⟩ := hS.rounds
  obtain ⟨ki, e4⟩ := hI.rounds
  have hq2 : ∀ i, i < q.1.length → (nth q.1 i []).length ≤ 1048576 := fun i hi => by rw [p2 _ (nth_mem hi)]; omega
  obtain ⟨ke, e5⟩ := (eqSS q.1 (by omega) hq2).rounds
  obtain ⟨kc, e6⟩ := (eqChart wd ht cs hcs).rounds
  obtain ⟨kq, e7⟩ := (eqHoles l hl).rounds
  obtain ⟨p3, f1, hM⟩ := markChart wd ht cs hcs 1 (by omega)
  obtain ⟨km, e8⟩ := hM.rounds
  obtain ⟨l', hN⟩ := markHoles l hl (1 + cs.length) (by omega)
  obtain ⟨kn, e9⟩ := hN.rounds
  obtain ⟨kx, e10⟩ := (heldSS q.1 1 (by omega) (by omega) hq2).rounds
  rw [← f1] at e9
  exact walkC wd ht cs l0 A0 c0 A1 c1 w hr0 hc0 hr1 hc1 r r2 hz h1 hz2 h4 l l' p3.2 q.1 q.2 kt kh ks ki ke kc kq km kn kx p3.1 _ e1 e2 e3 e4 e5 e6 e7 e8 e9 (by omega) (by omega) hq2 e10
end SK
end Go.Proofs.Ytkglpfdoefdhdaa.WK
