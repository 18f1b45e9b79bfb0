import Derived.Test.YthmgiagecgkmiaaDoorMTX
import Derived.Test.YthmgiagecgkmiaaDoorMTL
import Derived.KernelRfl
import Derived.Test.YthmgiagecgkmiaaDoorQx10
import Derived.Test.YthmgiagecgkmiaaDoorQx23
import Derived.Test.YthmgiagecgkmiaaDoorQx25
import Derived.Test.YthmgiagecgkmiaaDoorQx8888801
namespace Go.Proofs.YthmgiagecgkmiaaDoor.WK
open Go Go.RowKit Go.Proofs.YthmgiagecgkmiaaDoor.Q Go.Proofs.YthmgiagecgkmiaaDoor.M Go.Proofs.YthmgiagecgkmiaaDoorW.PrintWords Go.Proofs.YthmgiagecgkmiaaDoorW.Pl Go.Proofs.YthmgiagecgkmiaaDoorW.SL
set_option linter.unusedSimpArgs false
set_option linter.unusedVariables false
set_option maxRecDepth 100000
namespace Txt
theorem mixed : Tryd.prog.follows .mixedOrders = true := by kernel_rfl
set_option maxHeartbeats 2000000 in
theorem lineTT1 (m c n h i s : Int) (hk : okM m c n h i s = true) (h1c : c = 1) (w : World) (htab : Lib.TabIs Tryd.prog w tabName .u64 Lib.pow10Tab) : Calls Tryd.prog 11 #[.agg #[.int .i64 m, .int .i64 c, .int .i64 n, .int .i64 h, .int .i64 i, .int .i64 s]] w fun e w' => e = .returned (.tuple #[.string (lineT m c n (i - s)), .bool true]) ∧ Below w.heap.size w w' := by
  let Rr : Ending → World → Prop := fun e w' => e = .returned (.tuple #[.string (lineT m c n (i - s)), .bool true]) ∧ Below w.heap.size w w'
  obtain ⟨hm, hc, hn, hi, hs⟩ := okM_at hk
  have s1 := dec_size m (by omega) (by omega)
  have s2 := dec_size c (by omega) (by omega)
  have s3 := dec_size n (by omega) (by omega)
  have s4 := cT_size (i - s) (by omega)
  have hpf : impl_MonthRow_profit.f m c n h i s = some (i - s) := by unfold impl_MonthRow_profit.f; rw [w64 (by omega)]
  refine enterW (args := [.agg #[.int .i64 m, .int .i64 c, .int .i64 n, .int .i64 h, .int .i64 i, .int .i64 s]]) [fun W => Lib.TabIs Tryd.prog W tabName .u64 Lib.pow10Tab] (fun p hp W hb => by rw [List.mem_singleton.1 hp]; exact tab_below htab hb) Tryd.func11 rfl rfl ?_
  show Cj Tryd.prog _ _ _ (bodyPost Tryd.prog Tryd.f11 Rr) _ _ _
  repeat (first
    | (apply gateO; first
      | refine Jl.yd (Y.mv rfl rfl) rfl rfl rfl ?_
      | refine Jl.yd (Y.asg rfl rfl) rfl rfl rfl ?_
      | refine Jl.yd (Y.ext rfl rfl rfl) rfl rfl rfl ?_
      | refine Jl.yd (Y.pickT rfl rfl rfl) rfl rfl rfl ?_
      | refine Jl.yd (Y.pickF rfl rfl rfl) rfl rfl rfl ?_
      | refine Jl.off rfl rfl rfl ?_
      | refine Jl.yd (Y.cmpF rfl rfl rfl rfl (by omega)) rfl rfl rfl ?_
      | refine Jl.yd (Y.cmpT rfl rfl rfl rfl (by omega)) rfl rfl rfl ?_
      | refine Jl.yd (Y.neqB rfl rfl rfl Tryd.underlying4) rfl rfl rfl ?_
      | refine Jl.yd (Y.cmp rfl rfl rfl rfl) rfl rfl rfl ?_
      | refine Jl.yd (Y.not rfl rfl) rfl rfl rfl ?_
      | refine Jl.yd (Y.arithN rfl rfl rfl rfl (by omega)) rfl rfl rfl ?_
      | refine Jl.yd (Y.arith64 rfl rfl rfl rfl) rfl rfl rfl ?_
      | refine Jl.yd (Y.loadA rfl rfl agg28 (by repeat (first | exact .head _ | refine .tail _ ?_)) (by rfl)) rfl rfl rfl ?_
      | refine Jl.yd (Y.load1 rfl rfl sc3 (by repeat (first | exact .head _ | refine .tail _ ?_)) (by rfl)) rfl rfl rfl ?_
      | refine Jl.yd (Y.fld0 rfl rfl fld28_0) rfl rfl rfl ?_
      | refine Jl.yd (Y.fld0 rfl rfl fld28_1) rfl rfl rfl ?_
      | refine Jl.yd (Y.fld0 rfl rfl fld28_2) rfl rfl rfl ?_
      | refine Jl.box (zs := [.int .i64 m, .int .i64 c, .int .i64 n, .int .i64 h, .int .i64 i, .int .i64 s]) rfl rfl rfl rfl rfl (by rfl) (fun gp => ?_)
      | refine Jl.call1 (v := .bool true) rfl rfl rfl rfl en25 rfl (fun w hW => impl_IsMonthRow.calls _ _ _ _ _ _ _ w ((iRow m c n h i s).trans (congrArg some hk))) ?_
      | refine Jl.call1 (v := .int .i64 (i - s)) rfl rfl rfl rfl en27 rfl (fun w hW => impl_MonthRow_profit.calls _ _ _ _ _ _ _ w hpf) ?_
      | refine Jl.yd (Y.cat rfl rfl rfl (by (try simp only [ByteArray.size_append', ByteArray.size_mk', List.size_toArray, List.length_cons, List.length_nil]); omega)) rfl rfl rfl ?_
      | refine Jl.call1 (v := .string (dec _)) rfl rfl rfl rfl en26 rfl (fun w hW => by with_reducible exact dec_ _ (by omega) (by omega) w (hW.at 0 rfl)) ?_
      | refine Jl.call1 (v := .string (cT (i - s))) rfl rfl rfl rfl en22 rfl (fun w hW => cents_ (i - s) (by omega) w (hW.at 0 rfl)) ?_
      | refine Jl.splitG rfl rfl (fun h => ?_) (fun h => ?_))
    | (apply gateE; first
      | refine Jl.nil (Ej.go ?_ (fun _ _ h => h))
      | (refine Jl.nil (Ej.back (fun _ _ h => h) (by repeat (first | exact .refl | apply DropTo.tail)) ?_); repeat (first | exact trivial | refine ⟨rfl, ?_⟩)))
    | (apply gateC; first
      | refine Cj.regionD rfl (mkD [0, 1, 2, 3, 4, 5, 6, 7, 9, 10, 12, 13, 15, 16, 19, 20, 21] []) [] [0, 1, 5, 6, 9, 11, 12, 16, 2, 3, 4, 7, 8, 10, 13, 14, 15, 17, 18, 19, 20, 21] mixed (by decide +kernel) ?_
      | refine Cj.ret rfl (Ej.out2 (P := Tryd.prog) (fn := Tryd.f11) (R := Rr) (fun _ _ h => h) rfl rfl rfl (fun w' hW => ?_))
      | refine Cj.condF rfl rfl (Cj.skip rfl (Ej.go ?_ (fun _ _ h => h)))
      | (refine Cj.condF rfl rfl (Cj.skip rfl (Ej.back (fun _ _ h => h) (by repeat (first | exact .refl | apply DropTo.tail)) ?_)); repeat (first | exact trivial | refine ⟨rfl, ?_⟩))
      | refine Cj.condF rfl rfl ?_
      | refine Cj.condT rfl rfl ?_
      | refine Cj.exit rfl (Ej.go ?_ (fun _ _ h => h))
      | refine Cj.cond rfl rfl (fun h => ?_) (fun h => ?_)
      | refine Cj.skip rfl (Ej.go ?_ (fun _ _ h => h))
      | (refine Cj.skip rfl (Ej.back (fun _ _ h => h) (by repeat (first | exact .refl | apply DropTo.tail)) ?_); repeat (first | exact trivial | refine ⟨rfl, ?_⟩))
      | refine Cj.regionD rfl (mkD [0, 1, 2, 3, 4, 5, 6, 7, 9, 10, 12, 13, 15, 16, 19, 20, 21] []) [] [0, 1, 5, 6, 9, 11, 12, 16, 2, 3, 4, 7, 8, 10, 13, 14, 15, 17, 18, 19, 20, 21] mixed (by decide +kernel) ?_
      | refine Cj.seq rfl ?_
      | refine Cj.region rfl ?_))
  exact ⟨by unfold lineT carT; rw [if_pos h1c], hW.below⟩
set_option maxHeartbeats 2000000 in
theorem lineTT2 (m c n h i s : Int) (hk : okM m c n h i s = true) (h1c : ¬ c = 1) (w : World) (htab : Lib.TabIs Tryd.prog w tabName .u64 Lib.pow10Tab) : Calls Tryd.prog 11 #[.agg #[.int .i64 m, .int .i64 c, .int .i64 n, .int .i64 h, .int .i64 i, .int .i64 s]] w fun e w' => e = .returned (.tuple #[.string (lineT m c n (i - s)), .bool true]) ∧ Below w.heap.size w w' := by
  let Rr : Ending → World → Prop := fun e w' => e = .returned (.tuple #[.string (lineT m c n (i - s)), .bool true]) ∧ Below w.heap.size w w'
  obtain ⟨hm, hc, hn, hi, hs⟩ := okM_at hk
  have s1 := dec_size m (by omega) (by omega)
  have s2 := dec_size c (by omega) (by omega)
  have s3 := dec_size n (by omega) (by omega)
  have s4 := cT_size (i - s) (by omega)
  have hpf : impl_MonthRow_profit.f m c n h i s = some (i - s) := by unfold impl_MonthRow_profit.f; rw [w64 (by omega)]
  refine enterW (args := [.agg #[.int .i64 m, .int .i64 c, .int .i64 n, .int .i64 h, .int .i64 i, .int .i64 s]]) [fun W => Lib.TabIs Tryd.prog W tabName .u64 Lib.pow10Tab] (fun p hp W hb => by rw [List.mem_singleton.1 hp]; exact tab_below htab hb) Tryd.func11 rfl rfl ?_
  show Cj Tryd.prog _ _ _ (bodyPost Tryd.prog Tryd.f11 Rr) _ _ _
  repeat (first
    | (apply gateO; first
      | refine Jl.yd (Y.mv rfl rfl) rfl rfl rfl ?_
      | refine Jl.yd (Y.asg rfl rfl) rfl rfl rfl ?_
      | refine Jl.yd (Y.ext rfl rfl rfl) rfl rfl rfl ?_
      | refine Jl.yd (Y.pickT rfl rfl rfl) rfl rfl rfl ?_
      | refine Jl.yd (Y.pickF rfl rfl rfl) rfl rfl rfl ?_
      | refine Jl.off rfl rfl rfl ?_
      | refine Jl.yd (Y.cmpF rfl rfl rfl rfl (by omega)) rfl rfl rfl ?_
      | refine Jl.yd (Y.cmpT rfl rfl rfl rfl (by omega)) rfl rfl rfl ?_
      | refine Jl.yd (Y.neqB rfl rfl rfl Tryd.underlying4) rfl rfl rfl ?_
      | refine Jl.yd (Y.cmp rfl rfl rfl rfl) rfl rfl rfl ?_
      | refine Jl.yd (Y.not rfl rfl) rfl rfl rfl ?_
      | refine Jl.yd (Y.arithN rfl rfl rfl rfl (by omega)) rfl rfl rfl ?_
      | refine Jl.yd (Y.arith64 rfl rfl rfl rfl) rfl rfl rfl ?_
      | refine Jl.yd (Y.loadA rfl rfl agg28 (by repeat (first | exact .head _ | refine .tail _ ?_)) (by rfl)) rfl rfl rfl ?_
      | refine Jl.yd (Y.load1 rfl rfl sc3 (by repeat (first | exact .head _ | refine .tail _ ?_)) (by rfl)) rfl rfl rfl ?_
      | refine Jl.yd (Y.fld0 rfl rfl fld28_0) rfl rfl rfl ?_
      | refine Jl.yd (Y.fld0 rfl rfl fld28_1) rfl rfl rfl ?_
      | refine Jl.yd (Y.fld0 rfl rfl fld28_2) rfl rfl rfl ?_
      | refine Jl.box (zs := [.int .i64 m, .int .i64 c, .int .i64 n, .int .i64 h, .int .i64 i, .int .i64 s]) rfl rfl rfl rfl rfl (by rfl) (fun gp => ?_)
      | refine Jl.call1 (v := .bool true) rfl rfl rfl rfl en25 rfl (fun w hW => impl_IsMonthRow.calls _ _ _ _ _ _ _ w ((iRow m c n h i s).trans (congrArg some hk))) ?_
      | refine Jl.call1 (v := .int .i64 (i - s)) rfl rfl rfl rfl en27 rfl (fun w hW => impl_MonthRow_profit.calls _ _ _ _ _ _ _ w hpf) ?_
      | refine Jl.yd (Y.cat rfl rfl rfl (by (try simp only [ByteArray.size_append', ByteArray.size_mk', List.size_toArray, List.length_cons, List.length_nil]); omega)) rfl rfl rfl ?_
      | refine Jl.call1 (v := .string (dec _)) rfl rfl rfl rfl en26 rfl (fun w hW => by with_reducible exact dec_ _ (by omega) (by omega) w (hW.at 0 rfl)) ?_
      | refine Jl.call1 (v := .string (cT (i - s))) rfl rfl rfl rfl en22 rfl (fun w hW => cents_ (i - s) (by omega) w (hW.at 0 rfl)) ?_
      | refine Jl.splitG rfl rfl (fun h => ?_) (fun h => ?_))
    | (apply gateE; first
      | refine Jl.nil (Ej.go ?_ (fun _ _ h => h))
      | (refine Jl.nil (Ej.back (fun _ _ h => h) (by repeat (first | exact .refl | apply DropTo.tail)) ?_); repeat (first | exact trivial | refine ⟨rfl, ?_⟩)))
    | (apply gateC; first
      | refine Cj.regionD rfl (mkD [0, 1, 2, 3, 4, 5, 6, 7, 9, 10, 12, 13, 15, 16, 19, 20, 21] []) [] [0, 1, 5, 6, 9, 11, 12, 16, 2, 3, 4, 7, 8, 10, 13, 14, 15, 17, 18, 19, 20, 21] mixed (by decide +kernel) ?_
      | refine Cj.ret rfl (Ej.out2 (P := Tryd.prog) (fn := Tryd.f11) (R := Rr) (fun _ _ h => h) rfl rfl rfl (fun w' hW => ?_))
      | refine Cj.condF rfl rfl (Cj.skip rfl (Ej.go ?_ (fun _ _ h => h)))
      | (refine Cj.condF rfl rfl (Cj.skip rfl (Ej.back (fun _ _ h => h) (by repeat (first | exact .refl | apply DropTo.tail)) ?_)); repeat (first | exact trivial | refine ⟨rfl, ?_⟩))
      | refine Cj.condF rfl rfl ?_
      | refine Cj.condT rfl rfl ?_
      | refine Cj.exit rfl (Ej.go ?_ (fun _ _ h => h))
      | refine Cj.cond rfl rfl (fun h => ?_) (fun h => ?_)
      | refine Cj.skip rfl (Ej.go ?_ (fun _ _ h => h))
      | (refine Cj.skip rfl (Ej.back (fun _ _ h => h) (by repeat (first | exact .refl | apply DropTo.tail)) ?_); repeat (first | exact trivial | refine ⟨rfl, ?_⟩))
      | refine Cj.regionD rfl (mkD [0, 1, 2, 3, 4, 5, 6, 7, 9, 10, 12, 13, 15, 16, 19, 20, 21] []) [] [0, 1, 5, 6, 9, 11, 12, 16, 2, 3, 4, 7, 8, 10, 13, 14, 15, 17, 18, 19, 20, 21] mixed (by decide +kernel) ?_
      | refine Cj.seq rfl ?_
      | refine Cj.region rfl ?_))
  exact ⟨by unfold lineT carT; rw [if_neg h1c], hW.below⟩
set_option maxHeartbeats 2000000 in
theorem lineTF (m c n h i s : Int) (hk : okM m c n h i s = false) (w : World) (htab : Lib.TabIs Tryd.prog w tabName .u64 Lib.pow10Tab) : Calls Tryd.prog 11 #[.agg #[.int .i64 m, .int .i64 c, .int .i64 n, .int .i64 h, .int .i64 i, .int .i64 s]] w fun e w' => e = .returned (.tuple #[.string ⟨#[]⟩, .bool false]) ∧ Below w.heap.size w w' := by
  let Rr : Ending → World → Prop := fun e w' => e = .returned (.tuple #[.string ⟨#[]⟩, .bool false]) ∧ Below w.heap.size w w'
  refine enterW (args := [.agg #[.int .i64 m, .int .i64 c, .int .i64 n, .int .i64 h, .int .i64 i, .int .i64 s]]) [fun W => Lib.TabIs Tryd.prog W tabName .u64 Lib.pow10Tab] (fun p hp W hb => by rw [List.mem_singleton.1 hp]; exact tab_below htab hb) Tryd.func11 rfl rfl ?_
  show Cj Tryd.prog _ _ _ (bodyPost Tryd.prog Tryd.f11 Rr) _ _ _
  repeat (first
    | (apply gateO; first
      | refine Jl.yd (Y.mv rfl rfl) rfl rfl rfl ?_
      | refine Jl.yd (Y.asg rfl rfl) rfl rfl rfl ?_
      | refine Jl.yd (Y.ext rfl rfl rfl) rfl rfl rfl ?_
      | refine Jl.yd (Y.pickT rfl rfl rfl) rfl rfl rfl ?_
      | refine Jl.yd (Y.pickF rfl rfl rfl) rfl rfl rfl ?_
      | refine Jl.off rfl rfl rfl ?_
      | refine Jl.yd (Y.cmpF rfl rfl rfl rfl (by omega)) rfl rfl rfl ?_
      | refine Jl.yd (Y.cmpT rfl rfl rfl rfl (by omega)) rfl rfl rfl ?_
      | refine Jl.yd (Y.neqB rfl rfl rfl Tryd.underlying4) rfl rfl rfl ?_
      | refine Jl.yd (Y.cmp rfl rfl rfl rfl) rfl rfl rfl ?_
      | refine Jl.yd (Y.not rfl rfl) rfl rfl rfl ?_
      | refine Jl.yd (Y.arithN rfl rfl rfl rfl (by omega)) rfl rfl rfl ?_
      | refine Jl.yd (Y.arith64 rfl rfl rfl rfl) rfl rfl rfl ?_
      | refine Jl.yd (Y.loadA rfl rfl agg28 (by repeat (first | exact .head _ | refine .tail _ ?_)) (by rfl)) rfl rfl rfl ?_
      | refine Jl.yd (Y.load1 rfl rfl sc3 (by repeat (first | exact .head _ | refine .tail _ ?_)) (by rfl)) rfl rfl rfl ?_
      | refine Jl.yd (Y.fld0 rfl rfl fld28_0) rfl rfl rfl ?_
      | refine Jl.yd (Y.fld0 rfl rfl fld28_1) rfl rfl rfl ?_
      | refine Jl.yd (Y.fld0 rfl rfl fld28_2) rfl rfl rfl ?_
      | refine Jl.box (zs := [.int .i64 m, .int .i64 c, .int .i64 n, .int .i64 h, .int .i64 i, .int .i64 s]) rfl rfl rfl rfl rfl (by rfl) (fun gp => ?_)
      | refine Jl.call1 (v := .bool false) rfl rfl rfl rfl en25 rfl (fun w hW => impl_IsMonthRow.calls _ _ _ _ _ _ _ w ((iRow m c n h i s).trans (congrArg some hk))) ?_
      | refine Jl.splitG rfl rfl (fun h => ?_) (fun h => ?_))
    | (apply gateE; first
      | refine Jl.nil (Ej.go ?_ (fun _ _ h => h))
      | (refine Jl.nil (Ej.back (fun _ _ h => h) (by repeat (first | exact .refl | apply DropTo.tail)) ?_); repeat (first | exact trivial | refine ⟨rfl, ?_⟩)))
    | (apply gateC; first
      | refine Cj.ret rfl (Ej.out2 (P := Tryd.prog) (fn := Tryd.f11) (R := Rr) (fun _ _ h => h) rfl rfl rfl (fun w' hW => ?_))
      | refine Cj.condF rfl rfl (Cj.skip rfl (Ej.go ?_ (fun _ _ h => h)))
      | (refine Cj.condF rfl rfl (Cj.skip rfl (Ej.back (fun _ _ h => h) (by repeat (first | exact .refl | apply DropTo.tail)) ?_)); repeat (first | exact trivial | refine ⟨rfl, ?_⟩))
      | refine Cj.condF rfl rfl ?_
      | refine Cj.condT rfl rfl ?_
      | refine Cj.exit rfl (Ej.go ?_ (fun _ _ h => h))
      | refine Cj.cond rfl rfl (fun h => ?_) (fun h => ?_)
      | refine Cj.skip rfl (Ej.go ?_ (fun _ _ h => h))
      | (refine Cj.skip rfl (Ej.back (fun _ _ h => h) (by repeat (first | exact .refl | apply DropTo.tail)) ?_); repeat (first | exact trivial | refine ⟨rfl, ?_⟩))
      | refine Cj.seq rfl ?_
      | refine Cj.region rfl ?_))
  exact ⟨rfl, hW.below⟩
theorem line_ (m c n h i s : Int) (w : World) (htab : Lib.TabIs Tryd.prog w tabName .u64 Lib.pow10Tab) : Calls Tryd.prog 11 #[.agg #[.int .i64 m, .int .i64 c, .int .i64 n, .int .i64 h, .int .i64 i, .int .i64 s]] w fun e w' => e = .returned (.tuple #[.string (if okM m c n h i s = true then lineT m c n (i - s) else ⟨#[]⟩), .bool (okM m c n h i s)]) ∧ Below w.heap.size w w' := by
  cases hk : okM m c n h i s with
  | true =>
    rw [if_pos rfl]
    by_cases h1c : c = 1
    · exact lineTT1 m c n h i s hk h1c w htab
    · exact lineTT2 m c n h i s hk h1c w htab
  | false => exact lineTF m c n h i s hk w htab
set_option maxHeartbeats 2000000 in
theorem sLine1 (m c n h i s : Int) (hk : okM m c n h i s = true) (h1c : c = 1) (w : World) : Calls Tryd.prog 24 #[.agg #[.int .i64 m, .int .i64 c, .int .i64 n, .int .i64 h, .int .i64 i, .int .i64 s]] w fun e w' => e = .returned (.string (lineT m c n (i - s))) ∧ Below w.heap.size w w' := by
  let Rr : Ending → World → Prop := fun e w' => e = .returned (.string (lineT m c n (i - s))) ∧ Below w.heap.size w w'
  obtain ⟨hm, hc, hn, hi, hs⟩ := okM_at hk
  have s1 := dec_size m (by omega) (by omega)
  have s2 := dec_size c (by omega) (by omega)
  have s3 := dec_size n (by omega) (by omega)
  have s4 := cT_size (i - s) (by omega)
  have hpf : spec_l26Profit.f m c n h i s = some (i - s) := by unfold spec_l26Profit.f; rw [w64 (by omega)]
  refine enterW (args := [.agg #[.int .i64 m, .int .i64 c, .int .i64 n, .int .i64 h, .int .i64 i, .int .i64 s]]) [] (fun p hp W hb => by cases hp) Tryd.func24 rfl rfl ?_
  show Cj Tryd.prog _ _ _ (bodyPost Tryd.prog Tryd.f24 Rr) _ _ _
  repeat (first
    | (apply gateO; first
      | refine Jl.yd (Y.mv rfl rfl) rfl rfl rfl ?_
      | refine Jl.yd (Y.asg rfl rfl) rfl rfl rfl ?_
      | refine Jl.yd (Y.ext rfl rfl rfl) rfl rfl rfl ?_
      | refine Jl.yd (Y.pickT rfl rfl rfl) rfl rfl rfl ?_
      | refine Jl.yd (Y.pickF rfl rfl rfl) rfl rfl rfl ?_
      | refine Jl.off rfl rfl rfl ?_
      | refine Jl.yd (Y.cmpF rfl rfl rfl rfl (by omega)) rfl rfl rfl ?_
      | refine Jl.yd (Y.cmpT rfl rfl rfl rfl (by omega)) rfl rfl rfl ?_
      | refine Jl.yd (Y.neqB rfl rfl rfl Tryd.underlying4) rfl rfl rfl ?_
      | refine Jl.yd (Y.cmp rfl rfl rfl rfl) rfl rfl rfl ?_
      | refine Jl.yd (Y.not rfl rfl) rfl rfl rfl ?_
      | refine Jl.yd (Y.arithN rfl rfl rfl rfl (by omega)) rfl rfl rfl ?_
      | refine Jl.yd (Y.arith64 rfl rfl rfl rfl) rfl rfl rfl ?_
      | refine Jl.yd (Y.loadA rfl rfl agg28 (by repeat (first | exact .head _ | refine .tail _ ?_)) (by rfl)) rfl rfl rfl ?_
      | refine Jl.yd (Y.load1 rfl rfl sc3 (by repeat (first | exact .head _ | refine .tail _ ?_)) (by rfl)) rfl rfl rfl ?_
      | refine Jl.yd (Y.fld0 rfl rfl fld28_0) rfl rfl rfl ?_
      | refine Jl.yd (Y.fld0 rfl rfl fld28_1) rfl rfl rfl ?_
      | refine Jl.yd (Y.fld0 rfl rfl fld28_2) rfl rfl rfl ?_
      | refine Jl.box (zs := [.int .i64 m, .int .i64 c, .int .i64 n, .int .i64 h, .int .i64 i, .int .i64 s]) rfl rfl rfl rfl rfl (by rfl) (fun gp => ?_)
      | refine Jl.call1 (v := .int .i64 (i - s)) rfl rfl rfl rfl en29 rfl (fun w hW => spec_l26Profit.calls _ _ _ _ _ _ _ w hpf) ?_
      | refine Jl.yd (Y.cat rfl rfl rfl (by (try simp only [ByteArray.size_append', ByteArray.size_mk', List.size_toArray, List.length_cons, List.length_nil]); omega)) rfl rfl rfl ?_
      | refine Jl.call1 (v := .string (dec _)) rfl rfl rfl rfl en30 rfl (fun w hW => by with_reducible exact numI_ _ (by omega) w) ?_
      | refine Jl.call1 (v := .string (cT (i - s))) rfl rfl rfl rfl en20 rfl (fun w hW => sText_ (i - s) (by omega) w) ?_
      | refine Jl.splitG rfl rfl (fun h => ?_) (fun h => ?_))
    | (apply gateE; first
      | refine Jl.nil (Ej.go ?_ (fun _ _ h => h))
      | (refine Jl.nil (Ej.back (fun _ _ h => h) (by repeat (first | exact .refl | apply DropTo.tail)) ?_); repeat (first | exact trivial | refine ⟨rfl, ?_⟩)))
    | (apply gateC; first
      | refine Cj.regionD rfl (mkD [0, 1, 2, 3, 5, 6, 8, 9, 10] []) [] [0, 1, 5, 6, 2, 3, 4, 7, 8, 9, 10] mixed (by decide +kernel) ?_
      | refine Cj.regionD rfl (mkD [0, 1, 2, 3, 4, 6, 7, 10, 11] []) [] [0, 1, 2, 3, 7, 4, 5, 6, 8, 9, 10, 11] mixed (by decide +kernel) ?_
      | refine Cj.ret rfl (Ej.out1 (P := Tryd.prog) (fn := Tryd.f24) (R := Rr) (fun _ _ h => h) rfl rfl (fun w' hW => ?_))
      | refine Cj.condF rfl rfl (Cj.skip rfl (Ej.go ?_ (fun _ _ h => h)))
      | (refine Cj.condF rfl rfl (Cj.skip rfl (Ej.back (fun _ _ h => h) (by repeat (first | exact .refl | apply DropTo.tail)) ?_)); repeat (first | exact trivial | refine ⟨rfl, ?_⟩))
      | refine Cj.condF rfl rfl ?_
      | refine Cj.condT rfl rfl ?_
      | refine Cj.exit rfl (Ej.go ?_ (fun _ _ h => h))
      | refine Cj.cond rfl rfl (fun h => ?_) (fun h => ?_)
      | refine Cj.skip rfl (Ej.go ?_ (fun _ _ h => h))
      | (refine Cj.skip rfl (Ej.back (fun _ _ h => h) (by repeat (first | exact .refl | apply DropTo.tail)) ?_); repeat (first | exact trivial | refine ⟨rfl, ?_⟩))
      | refine Cj.regionD rfl (mkD [0, 1, 2, 3, 5, 6, 8, 9, 10] []) [] [0, 1, 5, 6, 2, 3, 4, 7, 8, 9, 10] mixed (by decide +kernel) ?_
      | refine Cj.regionD rfl (mkD [0, 1, 2, 3, 4, 6, 7, 10, 11] []) [] [0, 1, 2, 3, 7, 4, 5, 6, 8, 9, 10, 11] mixed (by decide +kernel) ?_
      | refine Cj.seq rfl ?_
      | refine Cj.region rfl ?_))
  exact ⟨by rw [line_one _ _ _ _ h1c], hW.below⟩
set_option maxHeartbeats 2000000 in
theorem sLine2 (m c n h i s : Int) (hk : okM m c n h i s = true) (h1c : ¬ c = 1) (w : World) : Calls Tryd.prog 24 #[.agg #[.int .i64 m, .int .i64 c, .int .i64 n, .int .i64 h, .int .i64 i, .int .i64 s]] w fun e w' => e = .returned (.string (lineT m c n (i - s))) ∧ Below w.heap.size w w' := by
  let Rr : Ending → World → Prop := fun e w' => e = .returned (.string (lineT m c n (i - s))) ∧ Below w.heap.size w w'
  obtain ⟨hm, hc, hn, hi, hs⟩ := okM_at hk
  have s1 := dec_size m (by omega) (by omega)
  have s2 := dec_size c (by omega) (by omega)
  have s3 := dec_size n (by omega) (by omega)
  have s4 := cT_size (i - s) (by omega)
  have hpf : spec_l26Profit.f m c n h i s = some (i - s) := by unfold spec_l26Profit.f; rw [w64 (by omega)]
  refine enterW (args := [.agg #[.int .i64 m, .int .i64 c, .int .i64 n, .int .i64 h, .int .i64 i, .int .i64 s]]) [] (fun p hp W hb => by cases hp) Tryd.func24 rfl rfl ?_
  show Cj Tryd.prog _ _ _ (bodyPost Tryd.prog Tryd.f24 Rr) _ _ _
  repeat (first
    | (apply gateO; first
      | refine Jl.yd (Y.mv rfl rfl) rfl rfl rfl ?_
      | refine Jl.yd (Y.asg rfl rfl) rfl rfl rfl ?_
      | refine Jl.yd (Y.ext rfl rfl rfl) rfl rfl rfl ?_
      | refine Jl.yd (Y.pickT rfl rfl rfl) rfl rfl rfl ?_
      | refine Jl.yd (Y.pickF rfl rfl rfl) rfl rfl rfl ?_
      | refine Jl.off rfl rfl rfl ?_
      | refine Jl.yd (Y.cmpF rfl rfl rfl rfl (by omega)) rfl rfl rfl ?_
      | refine Jl.yd (Y.cmpT rfl rfl rfl rfl (by omega)) rfl rfl rfl ?_
      | refine Jl.yd (Y.neqB rfl rfl rfl Tryd.underlying4) rfl rfl rfl ?_
      | refine Jl.yd (Y.cmp rfl rfl rfl rfl) rfl rfl rfl ?_
      | refine Jl.yd (Y.not rfl rfl) rfl rfl rfl ?_
      | refine Jl.yd (Y.arithN rfl rfl rfl rfl (by omega)) rfl rfl rfl ?_
      | refine Jl.yd (Y.arith64 rfl rfl rfl rfl) rfl rfl rfl ?_
      | refine Jl.yd (Y.loadA rfl rfl agg28 (by repeat (first | exact .head _ | refine .tail _ ?_)) (by rfl)) rfl rfl rfl ?_
      | refine Jl.yd (Y.load1 rfl rfl sc3 (by repeat (first | exact .head _ | refine .tail _ ?_)) (by rfl)) rfl rfl rfl ?_
      | refine Jl.yd (Y.fld0 rfl rfl fld28_0) rfl rfl rfl ?_
      | refine Jl.yd (Y.fld0 rfl rfl fld28_1) rfl rfl rfl ?_
      | refine Jl.yd (Y.fld0 rfl rfl fld28_2) rfl rfl rfl ?_
      | refine Jl.box (zs := [.int .i64 m, .int .i64 c, .int .i64 n, .int .i64 h, .int .i64 i, .int .i64 s]) rfl rfl rfl rfl rfl (by rfl) (fun gp => ?_)
      | refine Jl.call1 (v := .int .i64 (i - s)) rfl rfl rfl rfl en29 rfl (fun w hW => spec_l26Profit.calls _ _ _ _ _ _ _ w hpf) ?_
      | refine Jl.yd (Y.cat rfl rfl rfl (by (try simp only [ByteArray.size_append', ByteArray.size_mk', List.size_toArray, List.length_cons, List.length_nil]); omega)) rfl rfl rfl ?_
      | refine Jl.call1 (v := .string (dec _)) rfl rfl rfl rfl en30 rfl (fun w hW => by with_reducible exact numI_ _ (by omega) w) ?_
      | refine Jl.call1 (v := .string (cT (i - s))) rfl rfl rfl rfl en20 rfl (fun w hW => sText_ (i - s) (by omega) w) ?_
      | refine Jl.splitG rfl rfl (fun h => ?_) (fun h => ?_))
    | (apply gateE; first
      | refine Jl.nil (Ej.go ?_ (fun _ _ h => h))
      | (refine Jl.nil (Ej.back (fun _ _ h => h) (by repeat (first | exact .refl | apply DropTo.tail)) ?_); repeat (first | exact trivial | refine ⟨rfl, ?_⟩)))
    | (apply gateC; first
      | refine Cj.regionD rfl (mkD [0, 1, 2, 3, 5, 6, 8, 9, 10] []) [] [0, 1, 5, 6, 2, 3, 4, 7, 8, 9, 10] mixed (by decide +kernel) ?_
      | refine Cj.regionD rfl (mkD [0, 1, 2, 3, 4, 6, 7, 10, 11] []) [] [0, 1, 2, 3, 7, 4, 5, 6, 8, 9, 10, 11] mixed (by decide +kernel) ?_
      | refine Cj.ret rfl (Ej.out1 (P := Tryd.prog) (fn := Tryd.f24) (R := Rr) (fun _ _ h => h) rfl rfl (fun w' hW => ?_))
      | refine Cj.condF rfl rfl (Cj.skip rfl (Ej.go ?_ (fun _ _ h => h)))
      | (refine Cj.condF rfl rfl (Cj.skip rfl (Ej.back (fun _ _ h => h) (by repeat (first | exact .refl | apply DropTo.tail)) ?_)); repeat (first | exact trivial | refine ⟨rfl, ?_⟩))
      | refine Cj.condF rfl rfl ?_
      | refine Cj.condT rfl rfl ?_
      | refine Cj.exit rfl (Ej.go ?_ (fun _ _ h => h))
      | refine Cj.cond rfl rfl (fun h => ?_) (fun h => ?_)
      | refine Cj.skip rfl (Ej.go ?_ (fun _ _ h => h))
      | (refine Cj.skip rfl (Ej.back (fun _ _ h => h) (by repeat (first | exact .refl | apply DropTo.tail)) ?_); repeat (first | exact trivial | refine ⟨rfl, ?_⟩))
      | refine Cj.regionD rfl (mkD [0, 1, 2, 3, 5, 6, 8, 9, 10] []) [] [0, 1, 5, 6, 2, 3, 4, 7, 8, 9, 10] mixed (by decide +kernel) ?_
      | refine Cj.regionD rfl (mkD [0, 1, 2, 3, 4, 6, 7, 10, 11] []) [] [0, 1, 2, 3, 7, 4, 5, 6, 8, 9, 10, 11] mixed (by decide +kernel) ?_
      | refine Cj.seq rfl ?_
      | refine Cj.region rfl ?_))
  exact ⟨by rw [line_many _ _ _ _ h1c], hW.below⟩
theorem sLine_ (m c n h i s : Int) (hk : okM m c n h i s = true) (w : World) : Calls Tryd.prog 24 #[.agg #[.int .i64 m, .int .i64 c, .int .i64 n, .int .i64 h, .int .i64 i, .int .i64 s]] w fun e w' => e = .returned (.string (lineT m c n (i - s))) ∧ Below w.heap.size w w' := by
  by_cases h1c : c = 1
  · exact sLine1 m c n h i s hk h1c w
  · exact sLine2 m c n h i s hk h1c w
set_option maxHeartbeats 2000000 in
theorem sMLT (m c n h i s : Int) (hk : okM m c n h i s = true) (w : World) : Calls Tryd.prog 9 #[.agg #[.int .i64 m, .int .i64 c, .int .i64 n, .int .i64 h, .int .i64 i, .int .i64 s]] w fun e w' => e = .returned (.tuple #[.string (lineT m c n (i - s)), .bool true]) ∧ Below w.heap.size w w' := by
  let Rr : Ending → World → Prop := fun e w' => e = .returned (.tuple #[.string (lineT m c n (i - s)), .bool true]) ∧ Below w.heap.size w w'
  obtain ⟨ko, hko⟩ := (l26E m c n h i s).rounds
  rw [hk] at hko
  refine enterW (args := [.agg #[.int .i64 m, .int .i64 c, .int .i64 n, .int .i64 h, .int .i64 i, .int .i64 s]]) [] (fun p hp W hb => by cases hp) Tryd.func9 rfl rfl ?_
  show Cj Tryd.prog _ _ _ (bodyPost Tryd.prog Tryd.f9 Rr) _ _ _
  repeat (first
    | (apply gateO; first
      | refine Jl.yd (Y.mv rfl rfl) rfl rfl rfl ?_
      | refine Jl.yd (Y.asg rfl rfl) rfl rfl rfl ?_
      | refine Jl.yd (Y.ext rfl rfl rfl) rfl rfl rfl ?_
      | refine Jl.yd (Y.pickT rfl rfl rfl) rfl rfl rfl ?_
      | refine Jl.yd (Y.pickF rfl rfl rfl) rfl rfl rfl ?_
      | refine Jl.off rfl rfl rfl ?_
      | refine Jl.yd (Y.cmpF rfl rfl rfl rfl (by omega)) rfl rfl rfl ?_
      | refine Jl.yd (Y.cmpT rfl rfl rfl rfl (by omega)) rfl rfl rfl ?_
      | refine Jl.yd (Y.neqB rfl rfl rfl Tryd.underlying4) rfl rfl rfl ?_
      | refine Jl.yd (Y.cmp rfl rfl rfl rfl) rfl rfl rfl ?_
      | refine Jl.yd (Y.not rfl rfl) rfl rfl rfl ?_
      | refine Jl.yd (Y.arithN rfl rfl rfl rfl (by omega)) rfl rfl rfl ?_
      | refine Jl.yd (Y.arith64 rfl rfl rfl rfl) rfl rfl rfl ?_
      | refine Jl.yd (Y.loadA rfl rfl agg28 (by repeat (first | exact .head _ | refine .tail _ ?_)) (by rfl)) rfl rfl rfl ?_
      | refine Jl.yd (Y.load1 rfl rfl sc3 (by repeat (first | exact .head _ | refine .tail _ ?_)) (by rfl)) rfl rfl rfl ?_
      | refine Jl.yd (Y.fld0 rfl rfl fld28_0) rfl rfl rfl ?_
      | refine Jl.yd (Y.fld0 rfl rfl fld28_1) rfl rfl rfl ?_
      | refine Jl.yd (Y.fld0 rfl rfl fld28_2) rfl rfl rfl ?_
      | refine Jl.box (zs := [.int .i64 m, .int .i64 c, .int .i64 n, .int .i64 h, .int .i64 i, .int .i64 s]) rfl rfl rfl rfl rfl (by rfl) (fun gp => ?_)
      | refine Jl.call1 (v := .bool true) rfl rfl rfl rfl en23 rfl (fun w hW => spec_l26One.calls ko _ _ _ _ _ _ _ w hko) ?_
      | refine Jl.call1 (v := .string (lineT m c n (i - s))) rfl rfl rfl rfl en24 rfl (fun w hW => sLine_ m c n h i s hk w) ?_
      | refine Jl.splitG rfl rfl (fun h => ?_) (fun h => ?_))
    | (apply gateE; first
      | refine Jl.nil (Ej.go ?_ (fun _ _ h => h))
      | (refine Jl.nil (Ej.back (fun _ _ h => h) (by repeat (first | exact .refl | apply DropTo.tail)) ?_); repeat (first | exact trivial | refine ⟨rfl, ?_⟩)))
    | (apply gateC; first
      | refine Cj.ret rfl (Ej.out2 (P := Tryd.prog) (fn := Tryd.f9) (R := Rr) (fun _ _ h => h) rfl rfl rfl (fun w' hW => ?_))
      | refine Cj.condF rfl rfl (Cj.skip rfl (Ej.go ?_ (fun _ _ h => h)))
      | (refine Cj.condF rfl rfl (Cj.skip rfl (Ej.back (fun _ _ h => h) (by repeat (first | exact .refl | apply DropTo.tail)) ?_)); repeat (first | exact trivial | refine ⟨rfl, ?_⟩))
      | refine Cj.condF rfl rfl ?_
      | refine Cj.condT rfl rfl ?_
      | refine Cj.exit rfl (Ej.go ?_ (fun _ _ h => h))
      | refine Cj.cond rfl rfl (fun h => ?_) (fun h => ?_)
      | refine Cj.skip rfl (Ej.go ?_ (fun _ _ h => h))
      | (refine Cj.skip rfl (Ej.back (fun _ _ h => h) (by repeat (first | exact .refl | apply DropTo.tail)) ?_); repeat (first | exact trivial | refine ⟨rfl, ?_⟩))
      | refine Cj.seq rfl ?_
      | refine Cj.region rfl ?_))
  exact ⟨rfl, hW.below⟩
set_option maxHeartbeats 2000000 in
theorem sMLF (m c n h i s : Int) (hk : okM m c n h i s = false) (w : World) : Calls Tryd.prog 9 #[.agg #[.int .i64 m, .int .i64 c, .int .i64 n, .int .i64 h, .int .i64 i, .int .i64 s]] w fun e w' => e = .returned (.tuple #[.string ⟨#[]⟩, .bool false]) ∧ Below w.heap.size w w' := by
  let Rr : Ending → World → Prop := fun e w' => e = .returned (.tuple #[.string ⟨#[]⟩, .bool false]) ∧ Below w.heap.size w w'
  obtain ⟨ko, hko⟩ := (l26E m c n h i s).rounds
  rw [hk] at hko
  refine enterW (args := [.agg #[.int .i64 m, .int .i64 c, .int .i64 n, .int .i64 h, .int .i64 i, .int .i64 s]]) [] (fun p hp W hb => by cases hp) Tryd.func9 rfl rfl ?_
  show Cj Tryd.prog _ _ _ (bodyPost Tryd.prog Tryd.f9 Rr) _ _ _
  repeat (first
    | (apply gateO; first
      | refine Jl.yd (Y.mv rfl rfl) rfl rfl rfl ?_
      | refine Jl.yd (Y.asg rfl rfl) rfl rfl rfl ?_
      | refine Jl.yd (Y.ext rfl rfl rfl) rfl rfl rfl ?_
      | refine Jl.yd (Y.pickT rfl rfl rfl) rfl rfl rfl ?_
      | refine Jl.yd (Y.pickF rfl rfl rfl) rfl rfl rfl ?_
      | refine Jl.off rfl rfl rfl ?_
      | refine Jl.yd (Y.cmpF rfl rfl rfl rfl (by omega)) rfl rfl rfl ?_
      | refine Jl.yd (Y.cmpT rfl rfl rfl rfl (by omega)) rfl rfl rfl ?_
      | refine Jl.yd (Y.neqB rfl rfl rfl Tryd.underlying4) rfl rfl rfl ?_
      | refine Jl.yd (Y.cmp rfl rfl rfl rfl) rfl rfl rfl ?_
      | refine Jl.yd (Y.not rfl rfl) rfl rfl rfl ?_
      | refine Jl.yd (Y.arithN rfl rfl rfl rfl (by omega)) rfl rfl rfl ?_
      | refine Jl.yd (Y.arith64 rfl rfl rfl rfl) rfl rfl rfl ?_
      | refine Jl.yd (Y.loadA rfl rfl agg28 (by repeat (first | exact .head _ | refine .tail _ ?_)) (by rfl)) rfl rfl rfl ?_
      | refine Jl.yd (Y.load1 rfl rfl sc3 (by repeat (first | exact .head _ | refine .tail _ ?_)) (by rfl)) rfl rfl rfl ?_
      | refine Jl.yd (Y.fld0 rfl rfl fld28_0) rfl rfl rfl ?_
      | refine Jl.yd (Y.fld0 rfl rfl fld28_1) rfl rfl rfl ?_
      | refine Jl.yd (Y.fld0 rfl rfl fld28_2) rfl rfl rfl ?_
      | refine Jl.box (zs := [.int .i64 m, .int .i64 c, .int .i64 n, .int .i64 h, .int .i64 i, .int .i64 s]) rfl rfl rfl rfl rfl (by rfl) (fun gp => ?_)
      | refine Jl.call1 (v := .bool false) rfl rfl rfl rfl en23 rfl (fun w hW => spec_l26One.calls ko _ _ _ _ _ _ _ w hko) ?_
      | refine Jl.splitG rfl rfl (fun h => ?_) (fun h => ?_))
    | (apply gateE; first
      | refine Jl.nil (Ej.go ?_ (fun _ _ h => h))
      | (refine Jl.nil (Ej.back (fun _ _ h => h) (by repeat (first | exact .refl | apply DropTo.tail)) ?_); repeat (first | exact trivial | refine ⟨rfl, ?_⟩)))
    | (apply gateC; first
      | refine Cj.ret rfl (Ej.out2 (P := Tryd.prog) (fn := Tryd.f9) (R := Rr) (fun _ _ h => h) rfl rfl rfl (fun w' hW => ?_))
      | refine Cj.condF rfl rfl (Cj.skip rfl (Ej.go ?_ (fun _ _ h => h)))
      | (refine Cj.condF rfl rfl (Cj.skip rfl (Ej.back (fun _ _ h => h) (by repeat (first | exact .refl | apply DropTo.tail)) ?_)); repeat (first | exact trivial | refine ⟨rfl, ?_⟩))
      | refine Cj.condF rfl rfl ?_
      | refine Cj.condT rfl rfl ?_
      | refine Cj.exit rfl (Ej.go ?_ (fun _ _ h => h))
      | refine Cj.cond rfl rfl (fun h => ?_) (fun h => ?_)
      | refine Cj.skip rfl (Ej.go ?_ (fun _ _ h => h))
      | (refine Cj.skip rfl (Ej.back (fun _ _ h => h) (by repeat (first | exact .refl | apply DropTo.tail)) ?_); repeat (first | exact trivial | refine ⟨rfl, ?_⟩))
      | refine Cj.seq rfl ?_
      | refine Cj.region rfl ?_))
  exact ⟨rfl, hW.below⟩
theorem sMonthLine_ (m c n h i s : Int) (w : World) : Calls Tryd.prog 9 #[.agg #[.int .i64 m, .int .i64 c, .int .i64 n, .int .i64 h, .int .i64 i, .int .i64 s]] w fun e w' => e = .returned (.tuple #[.string (if okM m c n h i s = true then lineT m c n (i - s) else ⟨#[]⟩), .bool (okM m c n h i s)]) ∧ Below w.heap.size w w' := by
  cases hk : okM m c n h i s with
  | true =>
    rw [if_pos rfl]
    exact sMLT m c n h i s hk w
  | false => exact sMLF m c n h i s hk w
set_option maxHeartbeats 2000000 in
theorem lawLine (m c n h i s : Int) (q : ByteArray) (b : Bool) (hsp : ∀ w, Calls Tryd.prog 9 #[.agg #[.int .i64 m, .int .i64 c, .int .i64 n, .int .i64 h, .int .i64 i, .int .i64 s]] w fun e w' => e = .returned (.tuple #[.string q, .bool b]) ∧ Below w.heap.size w w') (him : ∀ w, Lib.TabIs Tryd.prog w tabName .u64 Lib.pow10Tab → Calls Tryd.prog 11 #[.agg #[.int .i64 m, .int .i64 c, .int .i64 n, .int .i64 h, .int .i64 i, .int .i64 s]] w fun e w' => e = .returned (.tuple #[.string q, .bool b]) ∧ Below w.heap.size w w') (w : World) (htab : Lib.TabIs Tryd.prog w tabName .u64 Lib.pow10Tab) : Calls Tryd.prog 4 #[.agg #[.int .i64 m, .int .i64 c, .int .i64 n, .int .i64 h, .int .i64 i, .int .i64 s]] w fun e w' => e = .returned (.bool true) ∧ Below w.heap.size w w' := by
  let Rr : Ending → World → Prop := fun e w' => e = .returned (.bool true) ∧ Below w.heap.size w w'
  refine enterW (args := [.agg #[.int .i64 m, .int .i64 c, .int .i64 n, .int .i64 h, .int .i64 i, .int .i64 s]]) [fun W => Lib.TabIs Tryd.prog W tabName .u64 Lib.pow10Tab] (fun p hp W hb => by rw [List.mem_singleton.1 hp]; exact tab_below htab hb) Tryd.func4 rfl rfl ?_
  show Cj Tryd.prog _ _ _ (bodyPost Tryd.prog Tryd.f4 Rr) _ _ _
  repeat (first
    | (apply gateO; first
      | refine Jl.yd (Y.mv rfl rfl) rfl rfl rfl ?_
      | refine Jl.yd (Y.asg rfl rfl) rfl rfl rfl ?_
      | refine Jl.yd (Y.ext rfl rfl rfl) rfl rfl rfl ?_
      | refine Jl.yd (Y.pickT rfl rfl rfl) rfl rfl rfl ?_
      | refine Jl.yd (Y.pickF rfl rfl rfl) rfl rfl rfl ?_
      | refine Jl.off rfl rfl rfl ?_
      | refine Jl.yd (Y.cmpF rfl rfl rfl rfl (by omega)) rfl rfl rfl ?_
      | refine Jl.yd (Y.cmpT rfl rfl rfl rfl (by omega)) rfl rfl rfl ?_
      | refine Jl.yd (Y.neqB rfl rfl rfl Tryd.underlying4) rfl rfl rfl ?_
      | refine Jl.yd (Y.cmp rfl rfl rfl rfl) rfl rfl rfl ?_
      | refine Jl.yd (Y.not rfl rfl) rfl rfl rfl ?_
      | refine Jl.yd (Y.arithN rfl rfl rfl rfl (by omega)) rfl rfl rfl ?_
      | refine Jl.yd (Y.arith64 rfl rfl rfl rfl) rfl rfl rfl ?_
      | refine Jl.yd (Y.loadA rfl rfl agg26 (by repeat (first | exact .head _ | refine .tail _ ?_)) (by rfl)) rfl rfl rfl ?_
      | refine Jl.box (zs := [.int .i64 m, .int .i64 c, .int .i64 n, .int .i64 h, .int .i64 i, .int .i64 s]) rfl rfl rfl rfl rfl (by rfl) (fun gp => ?_)
      | refine Jl.call1 (v := .agg #[.int .i64 m, .int .i64 c, .int .i64 n, .int .i64 h, .int .i64 i, .int .i64 s]) rfl rfl rfl rfl en10 rfl (fun w hW => laws_toMonthRow.calls m c n h i s m c n h i s w rfl) ?_
      | refine Jl.yd (Y.neSF rfl rfl rfl) rfl rfl rfl ?_
      | refine Jl.call1 (v := .tuple #[.string q, .bool b]) rfl rfl rfl rfl en9 rfl (fun w hW => hsp w) ?_
      | refine Jl.call1 (v := .tuple #[.string q, .bool b]) rfl rfl rfl rfl en11 rfl (fun w hW => him w (hW.at 0 rfl)) ?_
      | refine Jl.splitG rfl rfl (fun h => ?_) (fun h => ?_))
    | (apply gateE; first
      | refine Jl.nil (Ej.go ?_ (fun _ _ h => h))
      | (refine Jl.nil (Ej.back (fun _ _ h => h) (by repeat (first | exact .refl | apply DropTo.tail)) ?_); repeat (first | exact trivial | refine ⟨rfl, ?_⟩)))
    | (apply gateC; first
      | refine Cj.ret rfl (Ej.out1 (P := Tryd.prog) (fn := Tryd.f4) (R := Rr) (fun _ _ h => h) rfl rfl (fun w' hW => ?_))
      | refine Cj.condF rfl rfl (Cj.skip rfl (Ej.go ?_ (fun _ _ h => h)))
      | (refine Cj.condF rfl rfl (Cj.skip rfl (Ej.back (fun _ _ h => h) (by repeat (first | exact .refl | apply DropTo.tail)) ?_)); repeat (first | exact trivial | refine ⟨rfl, ?_⟩))
      | refine Cj.condF rfl rfl ?_
      | refine Cj.condT rfl rfl ?_
      | refine Cj.exit rfl (Ej.go ?_ (fun _ _ h => h))
      | refine Cj.cond rfl rfl (fun h => ?_) (fun h => ?_)
      | refine Cj.skip rfl (Ej.go ?_ (fun _ _ h => h))
      | (refine Cj.skip rfl (Ej.back (fun _ _ h => h) (by repeat (first | exact .refl | apply DropTo.tail)) ?_); repeat (first | exact trivial | refine ⟨rfl, ?_⟩))
      | refine Cj.seq rfl ?_
      | refine Cj.region rfl ?_))
  exact ⟨rfl, hW.below⟩
end Txt
end Go.Proofs.YthmgiagecgkmiaaDoor.WK
