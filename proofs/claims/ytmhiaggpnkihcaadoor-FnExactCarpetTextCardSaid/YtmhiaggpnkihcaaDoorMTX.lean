import Derived.Test.YtmhiaggpnkihcaaDoorSLY
import Derived.Test.YtmhiaggpnkihcaaDoorSLW
import Derived.Test.YtmhiaggpnkihcaaDoorMTP
import Derived.Test.YtmhiaggpnkihcaaDoorMSh
import Derived.Test.YtmhiaggpnkihcaaDoorMA
import Derived.KernelRfl
import Derived.Lib.AppendIntMem
import Derived.Test.YtmhiaggpnkihcaaDoorQx10
import Derived.Test.YtmhiaggpnkihcaaDoorQx14
import Derived.Test.YtmhiaggpnkihcaaDoorQx20
import Derived.Test.YtmhiaggpnkihcaaDoorQx6
import Derived.Test.YtmhiaggpnkihcaaDoorQx8
import Derived.Test.YtmhiaggpnkihcaaDoorQx8888801
namespace Go.Proofs.YtmhiaggpnkihcaaDoor.WK
open Go Go.RowKit Go.Proofs.YtmhiaggpnkihcaaDoor.Q Go.Proofs.YtmhiaggpnkihcaaDoor.M Go.Proofs.YtmhiaggpnkihcaaDoorW.PrintWords Go.Proofs.YtmhiaggpnkihcaaDoorW.Pl Go.Proofs.YtmhiaggpnkihcaaDoorW.SL
set_option linter.unusedSimpArgs false
set_option linter.unusedVariables false
set_option maxRecDepth 100000
namespace Txt
theorem agg39 : AggT Tryd.prog 39 5 := ⟨by kernel_rfl⟩
theorem agg30 : AggT Tryd.prog 30 4 := ⟨by kernel_rfl⟩
theorem agg24 : AggT Tryd.prog 24 4 := ⟨by kernel_rfl⟩
theorem agg41 : AggT Tryd.prog 41 5 := ⟨by kernel_rfl⟩
theorem sz39 : SzT Tryd.prog 39 5 := ⟨by kernel_rfl⟩
theorem sz41 : SzT Tryd.prog 41 5 := ⟨by kernel_rfl⟩
theorem sz30 : SzT Tryd.prog 30 4 := ⟨by kernel_rfl⟩
theorem sc3 : ScT Tryd.prog 3 := ⟨by kernel_rfl⟩
theorem sc9 : ScT Tryd.prog 9 := ⟨by kernel_rfl⟩
theorem sc28 : ScT Tryd.prog 28 := ⟨by kernel_rfl⟩
theorem fld39_0 : FldT Tryd.prog 39 0 0 := ⟨by kernel_rfl⟩
theorem fld39_1 : FldT Tryd.prog 39 1 1 := ⟨by kernel_rfl⟩
theorem fld39_2 : FldT Tryd.prog 39 2 2 := ⟨by kernel_rfl⟩
theorem fld39_3 : FldT Tryd.prog 39 3 3 := ⟨by kernel_rfl⟩
theorem fld30_2 : FldT Tryd.prog 30 2 2 := ⟨by kernel_rfl⟩
theorem zero39 : ZeroT Tryd.prog 39 [.int .i64 0, .int .i64 0, .int .i64 0, .int .i64 0, .int .i64 0] := ⟨by kernel_rfl⟩
theorem zero41 : ZeroT Tryd.prog 41 [.string ⟨#[]⟩, .string ⟨#[]⟩, .string ⟨#[]⟩, .string ⟨#[]⟩, .string ⟨#[]⟩] := ⟨by kernel_rfl⟩
theorem zero30 : ZeroT Tryd.prog 30 [.int .i64 0, .int .i64 0, .slice none 0 0, .int .i64 0] := ⟨by kernel_rfl⟩
theorem el28 : ElT Tryd.prog 28 39 5 := ⟨by kernel_rfl⟩
theorem el46 : ElT Tryd.prog 46 9 1 := ⟨by kernel_rfl⟩
theorem en4 : Ent Tryd.prog 4 := ⟨enters_of Tryd.func4 (by kernel_rfl) rfl⟩
theorem en5 : Ent Tryd.prog 5 := ⟨enters_of Tryd.func5 (by kernel_rfl) rfl⟩
theorem en6 : Ent Tryd.prog 6 := ⟨enters_of Tryd.func6 (by kernel_rfl) rfl⟩
theorem en7 : Ent Tryd.prog 7 := ⟨enters_of Tryd.func7 (by kernel_rfl) rfl⟩
theorem en8 : Ent Tryd.prog 8 := ⟨enters_of Tryd.func8 (by kernel_rfl) rfl⟩
theorem en10 : Ent Tryd.prog 10 := ⟨enters_of Tryd.func10 (by kernel_rfl) rfl⟩
theorem en11 : Ent Tryd.prog 11 := ⟨enters_of Tryd.func11 (by kernel_rfl) rfl⟩
theorem en12 : Ent Tryd.prog 12 := ⟨enters_of Tryd.func12 (by kernel_rfl) rfl⟩
theorem en14 : Ent Tryd.prog 14 := ⟨enters_of Tryd.func14 (by kernel_rfl) rfl⟩
theorem en15 : Ent Tryd.prog 15 := ⟨enters_of Tryd.func15 (by kernel_rfl) rfl⟩
theorem en16 : Ent Tryd.prog 16 := ⟨enters_of Tryd.func16 (by kernel_rfl) rfl⟩
theorem en20 : Ent Tryd.prog 20 := ⟨enters_of Tryd.func20 (by kernel_rfl) rfl⟩
theorem en25 : Ent Tryd.prog 25 := ⟨enters_of Tryd.func25 (by kernel_rfl) rfl⟩
theorem arr41 : ArT Tryd.prog 41 9 5 1 := ⟨by kernel_rfl, by kernel_rfl⟩
theorem mixed : Tryd.prog.follows .mixedOrders = true := by kernel_rfl
abbrev tabName : String := "internal/strconv.uint64pow10"
theorem bel_ {w w' : World} (h : Drawn0 w w') : Below w.heap.size w w' := h.below
theorem tab_below {w W : World} (h : Lib.TabIs Tryd.prog w tabName .u64 Lib.pow10Tab) (hb : Below w.heap.size w W) : Lib.TabIs Tryd.prog W tabName .u64 Lib.pow10Tab := Lib.tabBelow_of_tabIs h W hb
theorem below_grow (w : World) (k : Nat) (os : Array Obj) : Below w.heap.size w (Sort.grow (w.drewN k) os) := by
  refine ⟨rfl, rfl, rfl, by simp, fun k hk => ?_⟩
  rw [Sort.heap_grow_old _ _ (by simpa using hk)]
  rfl
theorem itoa_ (n : Int) (h0 : -9223372036854775808 ≤ n) (h1 : n ≤ 9223372036854775807) (w : World) (h : Lib.TabIs Tryd.prog w tabName .u64 Lib.pow10Tab) : Calls Tryd.prog 25 #[.int .i64 n] w fun e w' => e = .returned (.string (dec n)) ∧ Below w.heap.size w w' := by
  refine (Tryd.strconv_Itoa n h0 h1 w h).mono ?_
  rintro e w' ⟨rfl, k, os, rfl⟩
  exact ⟨rfl, below_grow w k os⟩
set_option maxHeartbeats 2000000 in
theorem dec_ (n : Int) (h0 : -9223372036854775808 ≤ n) (h1 : n ≤ 9223372036854775807) (w : World) (htab : Lib.TabIs Tryd.prog w tabName .u64 Lib.pow10Tab) : Calls Tryd.prog 16 #[.int .i64 n] w fun e w' => e = .returned (.string (dec n)) ∧ Below w.heap.size w w' := by
  let Rr : Ending → World → Prop := fun e w' => e = .returned (.string (dec n)) ∧ Below w.heap.size w w'
  refine enterW (args := [.int .i64 n]) [fun W => Lib.TabIs Tryd.prog W tabName .u64 Lib.pow10Tab] (fun p hp W hb => by rw [List.mem_singleton.1 hp]; exact tab_below htab hb) Tryd.func16 rfl rfl ?_
  show Cj Tryd.prog _ _ _ (bodyPost Tryd.prog Tryd.f16 Rr) _ _ _
  repeat (first
    | (apply gateO; first
      | refine Jl.yd (Y.mv rfl rfl) rfl rfl rfl ?_
      | refine Jl.yd (Y.asg rfl rfl) rfl rfl rfl ?_
      | refine Jl.yd (Y.ext rfl rfl rfl) rfl rfl rfl ?_
      | refine Jl.yd (Y.pickT rfl rfl rfl) rfl rfl rfl ?_
      | refine Jl.yd (Y.pickF rfl rfl rfl) rfl rfl rfl ?_
      | refine Jl.off rfl rfl rfl ?_
      | refine Jl.yd (Y.cmpF rfl rfl rfl rfl (by omega)) rfl rfl rfl ?_
      | refine Jl.yd (Y.cmpT rfl rfl rfl rfl (by omega)) rfl rfl rfl ?_
      | refine Jl.yd (Y.neqB rfl rfl rfl Tryd.underlying4) rfl rfl rfl ?_
      | refine Jl.yd (Y.cmp rfl rfl rfl rfl) rfl rfl rfl ?_
      | refine Jl.yd (Y.not rfl rfl) rfl rfl rfl ?_
      | refine Jl.yd (Y.arithN rfl rfl rfl rfl (by omega)) rfl rfl rfl ?_
      | refine Jl.yd (Y.arith64 rfl rfl rfl rfl) rfl rfl rfl ?_
      | refine Jl.call1 (v := .string (dec n)) rfl rfl rfl rfl en25 rfl (fun w hW => itoa_ n h0 h1 w (hW.at 0 rfl)) ?_
      | refine Jl.splitG rfl rfl (fun h => ?_) (fun h => ?_))
    | (apply gateE; first
      | refine Jl.nil (Ej.go ?_ (fun _ _ h => h))
      | (refine Jl.nil (Ej.back (fun _ _ h => h) (by repeat (first | exact .refl | apply DropTo.tail)) ?_); repeat (first | exact trivial | refine ⟨rfl, ?_⟩)))
    | (apply gateC; first
      | refine Cj.ret rfl (Ej.out1 (P := Tryd.prog) (fn := Tryd.f16) (R := Rr) (fun _ _ h => h) rfl rfl (fun w' hW => ?_))
      | refine Cj.condF rfl rfl (Cj.skip rfl (Ej.go ?_ (fun _ _ h => h)))
      | (refine Cj.condF rfl rfl (Cj.skip rfl (Ej.back (fun _ _ h => h) (by repeat (first | exact .refl | apply DropTo.tail)) ?_)); repeat (first | exact trivial | refine ⟨rfl, ?_⟩))
      | refine Cj.condF rfl rfl ?_
      | refine Cj.condT rfl rfl ?_
      | refine Cj.exit rfl (Ej.go ?_ (fun _ _ h => h))
      | refine Cj.cond rfl rfl (fun h => ?_) (fun h => ?_)
      | refine Cj.skip rfl (Ej.go ?_ (fun _ _ h => h))
      | (refine Cj.skip rfl (Ej.back (fun _ _ h => h) (by repeat (first | exact .refl | apply DropTo.tail)) ?_); repeat (first | exact trivial | refine ⟨rfl, ?_⟩))
      | refine Cj.seq rfl ?_
      | refine Cj.region rfl ?_))
  exact ⟨rfl, hW.below⟩
theorem num_ (n : Int) (h : 0 ≤ n ∧ n ≤ 4611686018427387903) (w : World) : Calls Tryd.prog 20 #[.int .i64 n] w fun e w' => e = .returned (.string (dec n)) ∧ Below w.heap.size w w' := by
  obtain ⟨u, rfl⟩ : ∃ u : Nat, n = (u : Int) := ⟨n.toNat, by omega⟩
  obtain ⟨k, hk⟩ := (num u (by omega)).rounds
  exact spec_l1Num.calls k _ _ w hk
set_option maxHeartbeats 2000000 in
theorem sTextP (x : S39) (h0 : 0 ≤ x.f0 ∧ x.f0 ≤ 500) (h1 : 0 ≤ x.f1 ∧ x.f1 ≤ 500) (h2 : 0 ≤ x.f2 ∧ x.f2 ≤ 4) (h3 : 0 ≤ x.f3 ∧ x.f3 ≤ 4) (hp : x.f3 > 0) (w : World) : Calls Tryd.prog 12 #[.agg #[.int .i64 x.f0, .int .i64 x.f1, .int .i64 x.f2, .int .i64 x.f3, .int .i64 x.f4]] w fun e w' => e = .returned (.string (carpT x)) ∧ Below w.heap.size w w' := by
  let Rr : Ending → World → Prop := fun e w' => e = .returned (.string (carpT x)) ∧ Below w.heap.size w w'
  have s0 := dec_size x.f0 (by omega) (by omega)
  have s1 := dec_size x.f1 (by omega) (by omega)
  have s3 := dec_size x.f3 (by omega) (by omega)
  have s2 := nmT_size x.f2
  have hnm := nm_at x.f2 h2
  refine enterW (args := [.agg #[.int .i64 x.f0, .int .i64 x.f1, .int .i64 x.f2, .int .i64 x.f3, .int .i64 x.f4]]) [] (fun p hp W hb => by cases hp) Tryd.func12 rfl rfl ?_
  show Cj Tryd.prog _ _ _ (bodyPost Tryd.prog Tryd.f12 Rr) _ _ _
  refine Cj.seq rfl ?_
  refine Cj.region rfl ?_
  refine Jl.box (zs := [.int .i64 x.f0, .int .i64 x.f1, .int .i64 x.f2, .int .i64 x.f3, .int .i64 x.f4]) rfl rfl rfl rfl rfl (by rfl) (fun gp => ?_)
  refine Jl.yd (Y.asg rfl rfl) rfl rfl rfl ?_
  refine Jl.nil (Ej.go ?_ (fun _ _ h => h))
  refine Cj.seq rfl ?_
  refine Cj.regionJ rfl [] mixed ?_
  refine Jw.take 1 rfl (by decide +kernel) (by intro c a d v w h; cases d <;> exact h) (fun w => Y.fld0 rfl rfl fld39_2) rfl rfl rfl ?_
  refine Jw.take 6 rfl (by decide +kernel) (by intro c a d v w h; cases d <;> exact h) (fun w => Y.fld0 rfl rfl fld39_1) rfl rfl rfl ?_
  refine Jw.take 11 rfl (by decide +kernel) (by intro c a d v w h; cases d <;> exact h) (fun w => Y.fld0 rfl rfl fld39_0) rfl rfl rfl ?_
  refine Jw.takeR 2 rfl (by decide +kernel) (by intro c a d v w h; cases d <;> exact h) (Y.load1 rfl rfl sc3 (by repeat (first | exact .head _ | refine .tail _ ?_)) (by rfl)) rfl rfl rfl ?_
  refine Jw.takeR 7 rfl (by decide +kernel) (by intro c a d v w h; cases d <;> exact h) (Y.load1 rfl rfl sc3 (by repeat (first | exact .head _ | refine .tail _ ?_)) (by rfl)) rfl rfl rfl ?_
  refine Jw.takeR 12 rfl (by decide +kernel) (by intro c a d v w h; cases d <;> exact h) (Y.load1 rfl rfl sc3 (by repeat (first | exact .head _ | refine .tail _ ?_)) (by rfl)) rfl rfl rfl ?_
  refine Jw.br2 (mkD [] []) 0 8 rfl rfl (by decide +kernel) rfl rfl ?_ ?_
  · skip
    refine Jl.litK 5 #[.string ⟨#[119, 97, 105, 116, 115]⟩, .string ⟨#[119, 111, 118, 101, 110]⟩, .string ⟨#[111, 102, 102]⟩, .string ⟨#[119, 97, 115, 104, 101, 100]⟩, .string ⟨#[115, 111, 108, 100]⟩] 9 rfl rfl rfl (by intro a w; kernel_rfl) (fun gl => ?_)
    refine Jl.jw ?_
    refine Jw.take 3 rfl (by decide +kernel) (by intro c a d v w h; cases d <;> exact h) (fun w => Y.idx0 rfl rfl rfl el46 (by omega) (by omega)) rfl rfl rfl ?_
    refine Jw.takeR 4 rfl (by decide +kernel) (by intro c a d v w h; cases d <;> exact h) (Y.load1 rfl rfl sc9 (by repeat (first | exact .head _ | refine .tail _ ?_)) hnm) rfl rfl rfl ?_
    refine Jw.take 5 rfl (by decide +kernel) (by intro c a d v w h; cases d <;> exact h) (fun w => Y.cat rfl rfl rfl (by (try simp only [ByteArray.size_append', ByteArray.size_mk', List.size_toArray, List.length_cons, List.length_nil]); omega)) rfl rfl rfl ?_
    refine Jw.step (mkD [] []) 8 rfl (by decide +kernel) rfl rfl ?_
    refine Jl.call1 (v := .string (dec x.f1)) rfl rfl rfl rfl en20 rfl (fun w hW => num_ x.f1 (by omega) w) ?_
    refine Jl.jw ?_
    refine Jw.take 9 rfl (by decide +kernel) (by intro c a d v w h; cases d <;> exact h) (fun w => Y.cat rfl rfl rfl (by (try simp only [ByteArray.size_append', ByteArray.size_mk', List.size_toArray, List.length_cons, List.length_nil]); omega)) rfl rfl rfl ?_
    refine Jw.take 10 rfl (by decide +kernel) (by intro c a d v w h; cases d <;> exact h) (fun w => Y.cat rfl rfl rfl (by (try simp only [ByteArray.size_append', ByteArray.size_mk', List.size_toArray, List.length_cons, List.length_nil]); omega)) rfl rfl rfl ?_
    refine Jw.step (mkD [] []) 13 rfl (by decide +kernel) rfl rfl ?_
    refine Jl.call1 (v := .string (dec x.f0)) rfl rfl rfl rfl en20 rfl (fun w hW => num_ x.f0 (by omega) w) ?_
    refine Jl.jw ?_
    refine Jw.take 14 rfl (by decide +kernel) (by intro c a d v w h; cases d <;> exact h) (fun w => Y.cat rfl rfl rfl (by (try simp only [ByteArray.size_append', ByteArray.size_mk', List.size_toArray, List.length_cons, List.length_nil]); omega)) rfl rfl rfl ?_
    refine Jw.take 15 rfl (by decide +kernel) (by intro c a d v w h; cases d <;> exact h) (fun w => Y.asg rfl rfl) rfl rfl rfl ?_
    refine Jw.done (by decide +kernel) (Ej.go ?_ (fun _ _ h => h))
    repeat (first
    | (apply gateO; first
      | refine Jl.yd (Y.mv rfl rfl) rfl rfl rfl ?_
      | refine Jl.yd (Y.asg rfl rfl) rfl rfl rfl ?_
      | refine Jl.yd (Y.ext rfl rfl rfl) rfl rfl rfl ?_
      | refine Jl.yd (Y.pickT rfl rfl rfl) rfl rfl rfl ?_
      | refine Jl.yd (Y.pickF rfl rfl rfl) rfl rfl rfl ?_
      | refine Jl.off rfl rfl rfl ?_
      | refine Jl.yd (Y.cmpF rfl rfl rfl rfl (by omega)) rfl rfl rfl ?_
      | refine Jl.yd (Y.cmpT rfl rfl rfl rfl (by omega)) rfl rfl rfl ?_
      | refine Jl.yd (Y.neqB rfl rfl rfl Tryd.underlying4) rfl rfl rfl ?_
      | refine Jl.yd (Y.cmp rfl rfl rfl rfl) rfl rfl rfl ?_
      | refine Jl.yd (Y.not rfl rfl) rfl rfl rfl ?_
      | refine Jl.yd (Y.arithN rfl rfl rfl rfl (by omega)) rfl rfl rfl ?_
      | refine Jl.yd (Y.arith64 rfl rfl rfl rfl) rfl rfl rfl ?_
      | refine Jl.yd (Y.load1 rfl rfl sc3 (by repeat (first | exact .head _ | refine .tail _ ?_)) (by rfl)) rfl rfl rfl ?_
      | refine Jl.yd (Y.fld0 rfl rfl fld39_3) rfl rfl rfl ?_
      | refine Jl.yd (Y.cat rfl rfl rfl (by (try simp only [ByteArray.size_append', ByteArray.size_mk', List.size_toArray, List.length_cons, List.length_nil]); omega)) rfl rfl rfl ?_
      | refine Jl.call1 (v := .string (dec x.f3)) rfl rfl rfl rfl en20 rfl (fun w hW => num_ x.f3 (by omega) w) ?_
      | refine Jl.splitG rfl rfl (fun h => ?_) (fun h => ?_))
    | (apply gateE; first
      | refine Jl.nil (Ej.go ?_ (fun _ _ h => h))
      | (refine Jl.nil (Ej.back (fun _ _ h => h) (by repeat (first | exact .refl | apply DropTo.tail)) ?_); repeat (first | exact trivial | refine ⟨rfl, ?_⟩)))
    | (apply gateC; first
      | refine Cj.ret rfl (Ej.out1 (P := Tryd.prog) (fn := Tryd.f12) (R := Rr) (fun _ _ h => h) rfl rfl (fun w' hW => ?_))
      | refine Cj.condF rfl rfl (Cj.skip rfl (Ej.go ?_ (fun _ _ h => h)))
      | (refine Cj.condF rfl rfl (Cj.skip rfl (Ej.back (fun _ _ h => h) (by repeat (first | exact .refl | apply DropTo.tail)) ?_)); repeat (first | exact trivial | refine ⟨rfl, ?_⟩))
      | refine Cj.condF rfl rfl ?_
      | refine Cj.condT rfl rfl ?_
      | refine Cj.exit rfl (Ej.go ?_ (fun _ _ h => h))
      | refine Cj.cond rfl rfl (fun h => ?_) (fun h => ?_)
      | refine Cj.skip rfl (Ej.go ?_ (fun _ _ h => h))
      | (refine Cj.skip rfl (Ej.back (fun _ _ h => h) (by repeat (first | exact .refl | apply DropTo.tail)) ?_); repeat (first | exact trivial | refine ⟨rfl, ?_⟩))
      | refine Cj.seq rfl ?_
      | refine Cj.region rfl ?_))
    exact ⟨by unfold carpT baseT; rw [if_pos hp, ← ByteArray.append_assoc], hW.below⟩
  · skip
    refine Jl.call1 (v := .string (dec x.f1)) rfl rfl rfl rfl en20 rfl (fun w hW => num_ x.f1 (by omega) w) ?_
    refine Jl.jw ?_
    refine Jw.br2 (mkD [] []) 0 13 rfl rfl (by decide +kernel) rfl rfl ?_ ?_
    · skip
      refine Jl.litK 5 #[.string ⟨#[119, 97, 105, 116, 115]⟩, .string ⟨#[119, 111, 118, 101, 110]⟩, .string ⟨#[111, 102, 102]⟩, .string ⟨#[119, 97, 115, 104, 101, 100]⟩, .string ⟨#[115, 111, 108, 100]⟩] 9 rfl rfl rfl (by intro a w; kernel_rfl) (fun gl => ?_)
      refine Jl.jw ?_
      refine Jw.take 3 rfl (by decide +kernel) (by intro c a d v w h; cases d <;> exact h) (fun w => Y.idx0 rfl rfl rfl el46 (by omega) (by omega)) rfl rfl rfl ?_
      refine Jw.takeR 4 rfl (by decide +kernel) (by intro c a d v w h; cases d <;> exact h) (Y.load1 rfl rfl sc9 (by repeat (first | exact .head _ | refine .tail _ ?_)) hnm) rfl rfl rfl ?_
      refine Jw.take 5 rfl (by decide +kernel) (by intro c a d v w h; cases d <;> exact h) (fun w => Y.cat rfl rfl rfl (by (try simp only [ByteArray.size_append', ByteArray.size_mk', List.size_toArray, List.length_cons, List.length_nil]); omega)) rfl rfl rfl ?_
      refine Jw.take 9 rfl (by decide +kernel) (by intro c a d v w h; cases d <;> exact h) (fun w => Y.cat rfl rfl rfl (by (try simp only [ByteArray.size_append', ByteArray.size_mk', List.size_toArray, List.length_cons, List.length_nil]); omega)) rfl rfl rfl ?_
      refine Jw.take 10 rfl (by decide +kernel) (by intro c a d v w h; cases d <;> exact h) (fun w => Y.cat rfl rfl rfl (by (try simp only [ByteArray.size_append', ByteArray.size_mk', List.size_toArray, List.length_cons, List.length_nil]); omega)) rfl rfl rfl ?_
      refine Jw.step (mkD [] []) 13 rfl (by decide +kernel) rfl rfl ?_
      refine Jl.call1 (v := .string (dec x.f0)) rfl rfl rfl rfl en20 rfl (fun w hW => num_ x.f0 (by omega) w) ?_
      refine Jl.jw ?_
      refine Jw.take 14 rfl (by decide +kernel) (by intro c a d v w h; cases d <;> exact h) (fun w => Y.cat rfl rfl rfl (by (try simp only [ByteArray.size_append', ByteArray.size_mk', List.size_toArray, List.length_cons, List.length_nil]); omega)) rfl rfl rfl ?_
      refine Jw.take 15 rfl (by decide +kernel) (by intro c a d v w h; cases d <;> exact h) (fun w => Y.asg rfl rfl) rfl rfl rfl ?_
      refine Jw.done (by decide +kernel) (Ej.go ?_ (fun _ _ h => h))
      repeat (first
    | (apply gateO; first
      | refine Jl.yd (Y.mv rfl rfl) rfl rfl rfl ?_
      | refine Jl.yd (Y.asg rfl rfl) rfl rfl rfl ?_
      | refine Jl.yd (Y.ext rfl rfl rfl) rfl rfl rfl ?_
      | refine Jl.yd (Y.pickT rfl rfl rfl) rfl rfl rfl ?_
      | refine Jl.yd (Y.pickF rfl rfl rfl) rfl rfl rfl ?_
      | refine Jl.off rfl rfl rfl ?_
      | refine Jl.yd (Y.cmpF rfl rfl rfl rfl (by omega)) rfl rfl rfl ?_
      | refine Jl.yd (Y.cmpT rfl rfl rfl rfl (by omega)) rfl rfl rfl ?_
      | refine Jl.yd (Y.neqB rfl rfl rfl Tryd.underlying4) rfl rfl rfl ?_
      | refine Jl.yd (Y.cmp rfl rfl rfl rfl) rfl rfl rfl ?_
      | refine Jl.yd (Y.not rfl rfl) rfl rfl rfl ?_
      | refine Jl.yd (Y.arithN rfl rfl rfl rfl (by omega)) rfl rfl rfl ?_
      | refine Jl.yd (Y.arith64 rfl rfl rfl rfl) rfl rfl rfl ?_
      | refine Jl.yd (Y.load1 rfl rfl sc3 (by repeat (first | exact .head _ | refine .tail _ ?_)) (by rfl)) rfl rfl rfl ?_
      | refine Jl.yd (Y.fld0 rfl rfl fld39_3) rfl rfl rfl ?_
      | refine Jl.yd (Y.cat rfl rfl rfl (by (try simp only [ByteArray.size_append', ByteArray.size_mk', List.size_toArray, List.length_cons, List.length_nil]); omega)) rfl rfl rfl ?_
      | refine Jl.call1 (v := .string (dec x.f3)) rfl rfl rfl rfl en20 rfl (fun w hW => num_ x.f3 (by omega) w) ?_
      | refine Jl.splitG rfl rfl (fun h => ?_) (fun h => ?_))
    | (apply gateE; first
      | refine Jl.nil (Ej.go ?_ (fun _ _ h => h))
      | (refine Jl.nil (Ej.back (fun _ _ h => h) (by repeat (first | exact .refl | apply DropTo.tail)) ?_); repeat (first | exact trivial | refine ⟨rfl, ?_⟩)))
    | (apply gateC; first
      | refine Cj.ret rfl (Ej.out1 (P := Tryd.prog) (fn := Tryd.f12) (R := Rr) (fun _ _ h => h) rfl rfl (fun w' hW => ?_))
      | refine Cj.condF rfl rfl (Cj.skip rfl (Ej.go ?_ (fun _ _ h => h)))
      | (refine Cj.condF rfl rfl (Cj.skip rfl (Ej.back (fun _ _ h => h) (by repeat (first | exact .refl | apply DropTo.tail)) ?_)); repeat (first | exact trivial | refine ⟨rfl, ?_⟩))
      | refine Cj.condF rfl rfl ?_
      | refine Cj.condT rfl rfl ?_
      | refine Cj.exit rfl (Ej.go ?_ (fun _ _ h => h))
      | refine Cj.cond rfl rfl (fun h => ?_) (fun h => ?_)
      | refine Cj.skip rfl (Ej.go ?_ (fun _ _ h => h))
      | (refine Cj.skip rfl (Ej.back (fun _ _ h => h) (by repeat (first | exact .refl | apply DropTo.tail)) ?_); repeat (first | exact trivial | refine ⟨rfl, ?_⟩))
      | refine Cj.seq rfl ?_
      | refine Cj.region rfl ?_))
      exact ⟨by unfold carpT baseT; rw [if_pos hp, ← ByteArray.append_assoc], hW.below⟩
    · skip
      refine Jl.call1 (v := .string (dec x.f0)) rfl rfl rfl rfl en20 rfl (fun w hW => num_ x.f0 (by omega) w) ?_
      refine Jl.jw ?_
      refine Jw.step (mkD [] []) 0 rfl (by decide +kernel) rfl rfl ?_
      refine Jl.litK 5 #[.string ⟨#[119, 97, 105, 116, 115]⟩, .string ⟨#[119, 111, 118, 101, 110]⟩, .string ⟨#[111, 102, 102]⟩, .string ⟨#[119, 97, 115, 104, 101, 100]⟩, .string ⟨#[115, 111, 108, 100]⟩] 9 rfl rfl rfl (by intro a w; kernel_rfl) (fun gl => ?_)
      refine Jl.jw ?_
      refine Jw.take 3 rfl (by decide +kernel) (by intro c a d v w h; cases d <;> exact h) (fun w => Y.idx0 rfl rfl rfl el46 (by omega) (by omega)) rfl rfl rfl ?_
      refine Jw.takeR 4 rfl (by decide +kernel) (by intro c a d v w h; cases d <;> exact h) (Y.load1 rfl rfl sc9 (by repeat (first | exact .head _ | refine .tail _ ?_)) hnm) rfl rfl rfl ?_
      refine Jw.take 5 rfl (by decide +kernel) (by intro c a d v w h; cases d <;> exact h) (fun w => Y.cat rfl rfl rfl (by (try simp only [ByteArray.size_append', ByteArray.size_mk', List.size_toArray, List.length_cons, List.length_nil]); omega)) rfl rfl rfl ?_
      refine Jw.take 9 rfl (by decide +kernel) (by intro c a d v w h; cases d <;> exact h) (fun w => Y.cat rfl rfl rfl (by (try simp only [ByteArray.size_append', ByteArray.size_mk', List.size_toArray, List.length_cons, List.length_nil]); omega)) rfl rfl rfl ?_
      refine Jw.take 10 rfl (by decide +kernel) (by intro c a d v w h; cases d <;> exact h) (fun w => Y.cat rfl rfl rfl (by (try simp only [ByteArray.size_append', ByteArray.size_mk', List.size_toArray, List.length_cons, List.length_nil]); omega)) rfl rfl rfl ?_
      refine Jw.take 14 rfl (by decide +kernel) (by intro c a d v w h; cases d <;> exact h) (fun w => Y.cat rfl rfl rfl (by (try simp only [ByteArray.size_append', ByteArray.size_mk', List.size_toArray, List.length_cons, List.length_nil]); omega)) rfl rfl rfl ?_
      refine Jw.take 15 rfl (by decide +kernel) (by intro c a d v w h; cases d <;> exact h) (fun w => Y.asg rfl rfl) rfl rfl rfl ?_
      refine Jw.done (by decide +kernel) (Ej.go ?_ (fun _ _ h => h))
      repeat (first
    | (apply gateO; first
      | refine Jl.yd (Y.mv rfl rfl) rfl rfl rfl ?_
      | refine Jl.yd (Y.asg rfl rfl) rfl rfl rfl ?_
      | refine Jl.yd (Y.ext rfl rfl rfl) rfl rfl rfl ?_
      | refine Jl.yd (Y.pickT rfl rfl rfl) rfl rfl rfl ?_
      | refine Jl.yd (Y.pickF rfl rfl rfl) rfl rfl rfl ?_
      | refine Jl.off rfl rfl rfl ?_
      | refine Jl.yd (Y.cmpF rfl rfl rfl rfl (by omega)) rfl rfl rfl ?_
      | refine Jl.yd (Y.cmpT rfl rfl rfl rfl (by omega)) rfl rfl rfl ?_
      | refine Jl.yd (Y.neqB rfl rfl rfl Tryd.underlying4) rfl rfl rfl ?_
      | refine Jl.yd (Y.cmp rfl rfl rfl rfl) rfl rfl rfl ?_
      | refine Jl.yd (Y.not rfl rfl) rfl rfl rfl ?_
      | refine Jl.yd (Y.arithN rfl rfl rfl rfl (by omega)) rfl rfl rfl ?_
      | refine Jl.yd (Y.arith64 rfl rfl rfl rfl) rfl rfl rfl ?_
      | refine Jl.yd (Y.load1 rfl rfl sc3 (by repeat (first | exact .head _ | refine .tail _ ?_)) (by rfl)) rfl rfl rfl ?_
      | refine Jl.yd (Y.fld0 rfl rfl fld39_3) rfl rfl rfl ?_
      | refine Jl.yd (Y.cat rfl rfl rfl (by (try simp only [ByteArray.size_append', ByteArray.size_mk', List.size_toArray, List.length_cons, List.length_nil]); omega)) rfl rfl rfl ?_
      | refine Jl.call1 (v := .string (dec x.f3)) rfl rfl rfl rfl en20 rfl (fun w hW => num_ x.f3 (by omega) w) ?_
      | refine Jl.splitG rfl rfl (fun h => ?_) (fun h => ?_))
    | (apply gateE; first
      | refine Jl.nil (Ej.go ?_ (fun _ _ h => h))
      | (refine Jl.nil (Ej.back (fun _ _ h => h) (by repeat (first | exact .refl | apply DropTo.tail)) ?_); repeat (first | exact trivial | refine ⟨rfl, ?_⟩)))
    | (apply gateC; first
      | refine Cj.ret rfl (Ej.out1 (P := Tryd.prog) (fn := Tryd.f12) (R := Rr) (fun _ _ h => h) rfl rfl (fun w' hW => ?_))
      | refine Cj.condF rfl rfl (Cj.skip rfl (Ej.go ?_ (fun _ _ h => h)))
      | (refine Cj.condF rfl rfl (Cj.skip rfl (Ej.back (fun _ _ h => h) (by repeat (first | exact .refl | apply DropTo.tail)) ?_)); repeat (first | exact trivial | refine ⟨rfl, ?_⟩))
      | refine Cj.condF rfl rfl ?_
      | refine Cj.condT rfl rfl ?_
      | refine Cj.exit rfl (Ej.go ?_ (fun _ _ h => h))
      | refine Cj.cond rfl rfl (fun h => ?_) (fun h => ?_)
      | refine Cj.skip rfl (Ej.go ?_ (fun _ _ h => h))
      | (refine Cj.skip rfl (Ej.back (fun _ _ h => h) (by repeat (first | exact .refl | apply DropTo.tail)) ?_); repeat (first | exact trivial | refine ⟨rfl, ?_⟩))
      | refine Cj.seq rfl ?_
      | refine Cj.region rfl ?_))
      exact ⟨by unfold carpT baseT; rw [if_pos hp, ← ByteArray.append_assoc], hW.below⟩
set_option maxHeartbeats 2000000 in
theorem sTextN (x : S39) (h0 : 0 ≤ x.f0 ∧ x.f0 ≤ 500) (h1 : 0 ≤ x.f1 ∧ x.f1 ≤ 500) (h2 : 0 ≤ x.f2 ∧ x.f2 ≤ 4) (h3 : 0 ≤ x.f3 ∧ x.f3 ≤ 4) (hp : ¬ x.f3 > 0) (w : World) : Calls Tryd.prog 12 #[.agg #[.int .i64 x.f0, .int .i64 x.f1, .int .i64 x.f2, .int .i64 x.f3, .int .i64 x.f4]] w fun e w' => e = .returned (.string (carpT x)) ∧ Below w.heap.size w w' := by
  let Rr : Ending → World → Prop := fun e w' => e = .returned (.string (carpT x)) ∧ Below w.heap.size w w'
  have s0 := dec_size x.f0 (by omega) (by omega)
  have s1 := dec_size x.f1 (by omega) (by omega)
  have s3 := dec_size x.f3 (by omega) (by omega)
  have s2 := nmT_size x.f2
  have hnm := nm_at x.f2 h2
  refine enterW (args := [.agg #[.int .i64 x.f0, .int .i64 x.f1, .int .i64 x.f2, .int .i64 x.f3, .int .i64 x.f4]]) [] (fun p hp W hb => by cases hp) Tryd.func12 rfl rfl ?_
  show Cj Tryd.prog _ _ _ (bodyPost Tryd.prog Tryd.f12 Rr) _ _ _
  refine Cj.seq rfl ?_
  refine Cj.region rfl ?_
  refine Jl.box (zs := [.int .i64 x.f0, .int .i64 x.f1, .int .i64 x.f2, .int .i64 x.f3, .int .i64 x.f4]) rfl rfl rfl rfl rfl (by rfl) (fun gp => ?_)
  refine Jl.yd (Y.asg rfl rfl) rfl rfl rfl ?_
  refine Jl.nil (Ej.go ?_ (fun _ _ h => h))
  refine Cj.seq rfl ?_
  refine Cj.regionJ rfl [] mixed ?_
  refine Jw.take 1 rfl (by decide +kernel) (by intro c a d v w h; cases d <;> exact h) (fun w => Y.fld0 rfl rfl fld39_2) rfl rfl rfl ?_
  refine Jw.take 6 rfl (by decide +kernel) (by intro c a d v w h; cases d <;> exact h) (fun w => Y.fld0 rfl rfl fld39_1) rfl rfl rfl ?_
  refine Jw.take 11 rfl (by decide +kernel) (by intro c a d v w h; cases d <;> exact h) (fun w => Y.fld0 rfl rfl fld39_0) rfl rfl rfl ?_
  refine Jw.takeR 2 rfl (by decide +kernel) (by intro c a d v w h; cases d <;> exact h) (Y.load1 rfl rfl sc3 (by repeat (first | exact .head _ | refine .tail _ ?_)) (by rfl)) rfl rfl rfl ?_
  refine Jw.takeR 7 rfl (by decide +kernel) (by intro c a d v w h; cases d <;> exact h) (Y.load1 rfl rfl sc3 (by repeat (first | exact .head _ | refine .tail _ ?_)) (by rfl)) rfl rfl rfl ?_
  refine Jw.takeR 12 rfl (by decide +kernel) (by intro c a d v w h; cases d <;> exact h) (Y.load1 rfl rfl sc3 (by repeat (first | exact .head _ | refine .tail _ ?_)) (by rfl)) rfl rfl rfl ?_
  refine Jw.br2 (mkD [] []) 0 8 rfl rfl (by decide +kernel) rfl rfl ?_ ?_
  · skip
    refine Jl.litK 5 #[.string ⟨#[119, 97, 105, 116, 115]⟩, .string ⟨#[119, 111, 118, 101, 110]⟩, .string ⟨#[111, 102, 102]⟩, .string ⟨#[119, 97, 115, 104, 101, 100]⟩, .string ⟨#[115, 111, 108, 100]⟩] 9 rfl rfl rfl (by intro a w; kernel_rfl) (fun gl => ?_)
    refine Jl.jw ?_
    refine Jw.take 3 rfl (by decide +kernel) (by intro c a d v w h; cases d <;> exact h) (fun w => Y.idx0 rfl rfl rfl el46 (by omega) (by omega)) rfl rfl rfl ?_
    refine Jw.takeR 4 rfl (by decide +kernel) (by intro c a d v w h; cases d <;> exact h) (Y.load1 rfl rfl sc9 (by repeat (first | exact .head _ | refine .tail _ ?_)) hnm) rfl rfl rfl ?_
    refine Jw.take 5 rfl (by decide +kernel) (by intro c a d v w h; cases d <;> exact h) (fun w => Y.cat rfl rfl rfl (by (try simp only [ByteArray.size_append', ByteArray.size_mk', List.size_toArray, List.length_cons, List.length_nil]); omega)) rfl rfl rfl ?_
    refine Jw.step (mkD [] []) 8 rfl (by decide +kernel) rfl rfl ?_
    refine Jl.call1 (v := .string (dec x.f1)) rfl rfl rfl rfl en20 rfl (fun w hW => num_ x.f1 (by omega) w) ?_
    refine Jl.jw ?_
    refine Jw.take 9 rfl (by decide +kernel) (by intro c a d v w h; cases d <;> exact h) (fun w => Y.cat rfl rfl rfl (by (try simp only [ByteArray.size_append', ByteArray.size_mk', List.size_toArray, List.length_cons, List.length_nil]); omega)) rfl rfl rfl ?_
    refine Jw.take 10 rfl (by decide +kernel) (by intro c a d v w h; cases d <;> exact h) (fun w => Y.cat rfl rfl rfl (by (try simp only [ByteArray.size_append', ByteArray.size_mk', List.size_toArray, List.length_cons, List.length_nil]); omega)) rfl rfl rfl ?_
    refine Jw.step (mkD [] []) 13 rfl (by decide +kernel) rfl rfl ?_
    refine Jl.call1 (v := .string (dec x.f0)) rfl rfl rfl rfl en20 rfl (fun w hW => num_ x.f0 (by omega) w) ?_
    refine Jl.jw ?_
    refine Jw.take 14 rfl (by decide +kernel) (by intro c a d v w h; cases d <;> exact h) (fun w => Y.cat rfl rfl rfl (by (try simp only [ByteArray.size_append', ByteArray.size_mk', List.size_toArray, List.length_cons, List.length_nil]); omega)) rfl rfl rfl ?_
    refine Jw.take 15 rfl (by decide +kernel) (by intro c a d v w h; cases d <;> exact h) (fun w => Y.asg rfl rfl) rfl rfl rfl ?_
    refine Jw.done (by decide +kernel) (Ej.go ?_ (fun _ _ h => h))
    repeat (first
    | (apply gateO; first
      | refine Jl.yd (Y.mv rfl rfl) rfl rfl rfl ?_
      | refine Jl.yd (Y.asg rfl rfl) rfl rfl rfl ?_
      | refine Jl.yd (Y.ext rfl rfl rfl) rfl rfl rfl ?_
      | refine Jl.yd (Y.pickT rfl rfl rfl) rfl rfl rfl ?_
      | refine Jl.yd (Y.pickF rfl rfl rfl) rfl rfl rfl ?_
      | refine Jl.off rfl rfl rfl ?_
      | refine Jl.yd (Y.cmpF rfl rfl rfl rfl (by omega)) rfl rfl rfl ?_
      | refine Jl.yd (Y.cmpT rfl rfl rfl rfl (by omega)) rfl rfl rfl ?_
      | refine Jl.yd (Y.neqB rfl rfl rfl Tryd.underlying4) rfl rfl rfl ?_
      | refine Jl.yd (Y.cmp rfl rfl rfl rfl) rfl rfl rfl ?_
      | refine Jl.yd (Y.not rfl rfl) rfl rfl rfl ?_
      | refine Jl.yd (Y.arithN rfl rfl rfl rfl (by omega)) rfl rfl rfl ?_
      | refine Jl.yd (Y.arith64 rfl rfl rfl rfl) rfl rfl rfl ?_
      | refine Jl.yd (Y.load1 rfl rfl sc3 (by repeat (first | exact .head _ | refine .tail _ ?_)) (by rfl)) rfl rfl rfl ?_
      | refine Jl.yd (Y.fld0 rfl rfl fld39_3) rfl rfl rfl ?_
      | refine Jl.yd (Y.cat rfl rfl rfl (by (try simp only [ByteArray.size_append', ByteArray.size_mk', List.size_toArray, List.length_cons, List.length_nil]); omega)) rfl rfl rfl ?_
      | refine Jl.call1 (v := .string (dec x.f3)) rfl rfl rfl rfl en20 rfl (fun w hW => num_ x.f3 (by omega) w) ?_
      | refine Jl.splitG rfl rfl (fun h => ?_) (fun h => ?_))
    | (apply gateE; first
      | refine Jl.nil (Ej.go ?_ (fun _ _ h => h))
      | (refine Jl.nil (Ej.back (fun _ _ h => h) (by repeat (first | exact .refl | apply DropTo.tail)) ?_); repeat (first | exact trivial | refine ⟨rfl, ?_⟩)))
    | (apply gateC; first
      | refine Cj.ret rfl (Ej.out1 (P := Tryd.prog) (fn := Tryd.f12) (R := Rr) (fun _ _ h => h) rfl rfl (fun w' hW => ?_))
      | refine Cj.condF rfl rfl (Cj.skip rfl (Ej.go ?_ (fun _ _ h => h)))
      | (refine Cj.condF rfl rfl (Cj.skip rfl (Ej.back (fun _ _ h => h) (by repeat (first | exact .refl | apply DropTo.tail)) ?_)); repeat (first | exact trivial | refine ⟨rfl, ?_⟩))
      | refine Cj.condF rfl rfl ?_
      | refine Cj.condT rfl rfl ?_
      | refine Cj.exit rfl (Ej.go ?_ (fun _ _ h => h))
      | refine Cj.cond rfl rfl (fun h => ?_) (fun h => ?_)
      | refine Cj.skip rfl (Ej.go ?_ (fun _ _ h => h))
      | (refine Cj.skip rfl (Ej.back (fun _ _ h => h) (by repeat (first | exact .refl | apply DropTo.tail)) ?_); repeat (first | exact trivial | refine ⟨rfl, ?_⟩))
      | refine Cj.seq rfl ?_
      | refine Cj.region rfl ?_))
    exact ⟨by unfold carpT baseT; rw [if_neg hp], hW.below⟩
  · skip
    refine Jl.call1 (v := .string (dec x.f1)) rfl rfl rfl rfl en20 rfl (fun w hW => num_ x.f1 (by omega) w) ?_
    refine Jl.jw ?_
    refine Jw.br2 (mkD [] []) 0 13 rfl rfl (by decide +kernel) rfl rfl ?_ ?_
    · skip
      refine Jl.litK 5 #[.string ⟨#[119, 97, 105, 116, 115]⟩, .string ⟨#[119, 111, 118, 101, 110]⟩, .string ⟨#[111, 102, 102]⟩, .string ⟨#[119, 97, 115, 104, 101, 100]⟩, .string ⟨#[115, 111, 108, 100]⟩] 9 rfl rfl rfl (by intro a w; kernel_rfl) (fun gl => ?_)
      refine Jl.jw ?_
      refine Jw.take 3 rfl (by decide +kernel) (by intro c a d v w h; cases d <;> exact h) (fun w => Y.idx0 rfl rfl rfl el46 (by omega) (by omega)) rfl rfl rfl ?_
      refine Jw.takeR 4 rfl (by decide +kernel) (by intro c a d v w h; cases d <;> exact h) (Y.load1 rfl rfl sc9 (by repeat (first | exact .head _ | refine .tail _ ?_)) hnm) rfl rfl rfl ?_
      refine Jw.take 5 rfl (by decide +kernel) (by intro c a d v w h; cases d <;> exact h) (fun w => Y.cat rfl rfl rfl (by (try simp only [ByteArray.size_append', ByteArray.size_mk', List.size_toArray, List.length_cons, List.length_nil]); omega)) rfl rfl rfl ?_
      refine Jw.take 9 rfl (by decide +kernel) (by intro c a d v w h; cases d <;> exact h) (fun w => Y.cat rfl rfl rfl (by (try simp only [ByteArray.size_append', ByteArray.size_mk', List.size_toArray, List.length_cons, List.length_nil]); omega)) rfl rfl rfl ?_
      refine Jw.take 10 rfl (by decide +kernel) (by intro c a d v w h; cases d <;> exact h) (fun w => Y.cat rfl rfl rfl (by (try simp only [ByteArray.size_append', ByteArray.size_mk', List.size_toArray, List.length_cons, List.length_nil]); omega)) rfl rfl rfl ?_
      refine Jw.step (mkD [] []) 13 rfl (by decide +kernel) rfl rfl ?_
      refine Jl.call1 (v := .string (dec x.f0)) rfl rfl rfl rfl en20 rfl (fun w hW => num_ x.f0 (by omega) w) ?_
      refine Jl.jw ?_
      refine Jw.take 14 rfl (by decide +kernel) (by intro c a d v w h; cases d <;> exact h) (fun w => Y.cat rfl rfl rfl (by (try simp only [ByteArray.size_append', ByteArray.size_mk', List.size_toArray, List.length_cons, List.length_nil]); omega)) rfl rfl rfl ?_
      refine Jw.take 15 rfl (by decide +kernel) (by intro c a d v w h; cases d <;> exact h) (fun w => Y.asg rfl rfl) rfl rfl rfl ?_
      refine Jw.done (by decide +kernel) (Ej.go ?_ (fun _ _ h => h))
      repeat (first
    | (apply gateO; first
      | refine Jl.yd (Y.mv rfl rfl) rfl rfl rfl ?_
      | refine Jl.yd (Y.asg rfl rfl) rfl rfl rfl ?_
      | refine Jl.yd (Y.ext rfl rfl rfl) rfl rfl rfl ?_
      | refine Jl.yd (Y.pickT rfl rfl rfl) rfl rfl rfl ?_
      | refine Jl.yd (Y.pickF rfl rfl rfl) rfl rfl rfl ?_
      | refine Jl.off rfl rfl rfl ?_
      | refine Jl.yd (Y.cmpF rfl rfl rfl rfl (by omega)) rfl rfl rfl ?_
      | refine Jl.yd (Y.cmpT rfl rfl rfl rfl (by omega)) rfl rfl rfl ?_
      | refine Jl.yd (Y.neqB rfl rfl rfl Tryd.underlying4) rfl rfl rfl ?_
      | refine Jl.yd (Y.cmp rfl rfl rfl rfl) rfl rfl rfl ?_
      | refine Jl.yd (Y.not rfl rfl) rfl rfl rfl ?_
      | refine Jl.yd (Y.arithN rfl rfl rfl rfl (by omega)) rfl rfl rfl ?_
      | refine Jl.yd (Y.arith64 rfl rfl rfl rfl) rfl rfl rfl ?_
      | refine Jl.yd (Y.load1 rfl rfl sc3 (by repeat (first | exact .head _ | refine .tail _ ?_)) (by rfl)) rfl rfl rfl ?_
      | refine Jl.yd (Y.fld0 rfl rfl fld39_3) rfl rfl rfl ?_
      | refine Jl.yd (Y.cat rfl rfl rfl (by (try simp only [ByteArray.size_append', ByteArray.size_mk', List.size_toArray, List.length_cons, List.length_nil]); omega)) rfl rfl rfl ?_
      | refine Jl.call1 (v := .string (dec x.f3)) rfl rfl rfl rfl en20 rfl (fun w hW => num_ x.f3 (by omega) w) ?_
      | refine Jl.splitG rfl rfl (fun h => ?_) (fun h => ?_))
    | (apply gateE; first
      | refine Jl.nil (Ej.go ?_ (fun _ _ h => h))
      | (refine Jl.nil (Ej.back (fun _ _ h => h) (by repeat (first | exact .refl | apply DropTo.tail)) ?_); repeat (first | exact trivial | refine ⟨rfl, ?_⟩)))
    | (apply gateC; first
      | refine Cj.ret rfl (Ej.out1 (P := Tryd.prog) (fn := Tryd.f12) (R := Rr) (fun _ _ h => h) rfl rfl (fun w' hW => ?_))
      | refine Cj.condF rfl rfl (Cj.skip rfl (Ej.go ?_ (fun _ _ h => h)))
      | (refine Cj.condF rfl rfl (Cj.skip rfl (Ej.back (fun _ _ h => h) (by repeat (first | exact .refl | apply DropTo.tail)) ?_)); repeat (first | exact trivial | refine ⟨rfl, ?_⟩))
      | refine Cj.condF rfl rfl ?_
      | refine Cj.condT rfl rfl ?_
      | refine Cj.exit rfl (Ej.go ?_ (fun _ _ h => h))
      | refine Cj.cond rfl rfl (fun h => ?_) (fun h => ?_)
      | refine Cj.skip rfl (Ej.go ?_ (fun _ _ h => h))
      | (refine Cj.skip rfl (Ej.back (fun _ _ h => h) (by repeat (first | exact .refl | apply DropTo.tail)) ?_); repeat (first | exact trivial | refine ⟨rfl, ?_⟩))
      | refine Cj.seq rfl ?_
      | refine Cj.region rfl ?_))
      exact ⟨by unfold carpT baseT; rw [if_neg hp], hW.below⟩
    · skip
      refine Jl.call1 (v := .string (dec x.f0)) rfl rfl rfl rfl en20 rfl (fun w hW => num_ x.f0 (by omega) w) ?_
      refine Jl.jw ?_
      refine Jw.step (mkD [] []) 0 rfl (by decide +kernel) rfl rfl ?_
      refine Jl.litK 5 #[.string ⟨#[119, 97, 105, 116, 115]⟩, .string ⟨#[119, 111, 118, 101, 110]⟩, .string ⟨#[111, 102, 102]⟩, .string ⟨#[119, 97, 115, 104, 101, 100]⟩, .string ⟨#[115, 111, 108, 100]⟩] 9 rfl rfl rfl (by intro a w; kernel_rfl) (fun gl => ?_)
      refine Jl.jw ?_
      refine Jw.take 3 rfl (by decide +kernel) (by intro c a d v w h; cases d <;> exact h) (fun w => Y.idx0 rfl rfl rfl el46 (by omega) (by omega)) rfl rfl rfl ?_
      refine Jw.takeR 4 rfl (by decide +kernel) (by intro c a d v w h; cases d <;> exact h) (Y.load1 rfl rfl sc9 (by repeat (first | exact .head _ | refine .tail _ ?_)) hnm) rfl rfl rfl ?_
      refine Jw.take 5 rfl (by decide +kernel) (by intro c a d v w h; cases d <;> exact h) (fun w => Y.cat rfl rfl rfl (by (try simp only [ByteArray.size_append', ByteArray.size_mk', List.size_toArray, List.length_cons, List.length_nil]); omega)) rfl rfl rfl ?_
      refine Jw.take 9 rfl (by decide +kernel) (by intro c a d v w h; cases d <;> exact h) (fun w => Y.cat rfl rfl rfl (by (try simp only [ByteArray.size_append', ByteArray.size_mk', List.size_toArray, List.length_cons, List.length_nil]); omega)) rfl rfl rfl ?_
      refine Jw.take 10 rfl (by decide +kernel) (by intro c a d v w h; cases d <;> exact h) (fun w => Y.cat rfl rfl rfl (by (try simp only [ByteArray.size_append', ByteArray.size_mk', List.size_toArray, List.length_cons, List.length_nil]); omega)) rfl rfl rfl ?_
      refine Jw.take 14 rfl (by decide +kernel) (by intro c a d v w h; cases d <;> exact h) (fun w => Y.cat rfl rfl rfl (by (try simp only [ByteArray.size_append', ByteArray.size_mk', List.size_toArray, List.length_cons, List.length_nil]); omega)) rfl rfl rfl ?_
      refine Jw.take 15 rfl (by decide +kernel) (by intro c a d v w h; cases d <;> exact h) (fun w => Y.asg rfl rfl) rfl rfl rfl ?_
      refine Jw.done (by decide +kernel) (Ej.go ?_ (fun _ _ h => h))
      repeat (first
    | (apply gateO; first
      | refine Jl.yd (Y.mv rfl rfl) rfl rfl rfl ?_
      | refine Jl.yd (Y.asg rfl rfl) rfl rfl rfl ?_
      | refine Jl.yd (Y.ext rfl rfl rfl) rfl rfl rfl ?_
      | refine Jl.yd (Y.pickT rfl rfl rfl) rfl rfl rfl ?_
      | refine Jl.yd (Y.pickF rfl rfl rfl) rfl rfl rfl ?_
      | refine Jl.off rfl rfl rfl ?_
      | refine Jl.yd (Y.cmpF rfl rfl rfl rfl (by omega)) rfl rfl rfl ?_
      | refine Jl.yd (Y.cmpT rfl rfl rfl rfl (by omega)) rfl rfl rfl ?_
      | refine Jl.yd (Y.neqB rfl rfl rfl Tryd.underlying4) rfl rfl rfl ?_
      | refine Jl.yd (Y.cmp rfl rfl rfl rfl) rfl rfl rfl ?_
      | refine Jl.yd (Y.not rfl rfl) rfl rfl rfl ?_
      | refine Jl.yd (Y.arithN rfl rfl rfl rfl (by omega)) rfl rfl rfl ?_
      | refine Jl.yd (Y.arith64 rfl rfl rfl rfl) rfl rfl rfl ?_
      | refine Jl.yd (Y.load1 rfl rfl sc3 (by repeat (first | exact .head _ | refine .tail _ ?_)) (by rfl)) rfl rfl rfl ?_
      | refine Jl.yd (Y.fld0 rfl rfl fld39_3) rfl rfl rfl ?_
      | refine Jl.yd (Y.cat rfl rfl rfl (by (try simp only [ByteArray.size_append', ByteArray.size_mk', List.size_toArray, List.length_cons, List.length_nil]); omega)) rfl rfl rfl ?_
      | refine Jl.call1 (v := .string (dec x.f3)) rfl rfl rfl rfl en20 rfl (fun w hW => num_ x.f3 (by omega) w) ?_
      | refine Jl.splitG rfl rfl (fun h => ?_) (fun h => ?_))
    | (apply gateE; first
      | refine Jl.nil (Ej.go ?_ (fun _ _ h => h))
      | (refine Jl.nil (Ej.back (fun _ _ h => h) (by repeat (first | exact .refl | apply DropTo.tail)) ?_); repeat (first | exact trivial | refine ⟨rfl, ?_⟩)))
    | (apply gateC; first
      | refine Cj.ret rfl (Ej.out1 (P := Tryd.prog) (fn := Tryd.f12) (R := Rr) (fun _ _ h => h) rfl rfl (fun w' hW => ?_))
      | refine Cj.condF rfl rfl (Cj.skip rfl (Ej.go ?_ (fun _ _ h => h)))
      | (refine Cj.condF rfl rfl (Cj.skip rfl (Ej.back (fun _ _ h => h) (by repeat (first | exact .refl | apply DropTo.tail)) ?_)); repeat (first | exact trivial | refine ⟨rfl, ?_⟩))
      | refine Cj.condF rfl rfl ?_
      | refine Cj.condT rfl rfl ?_
      | refine Cj.exit rfl (Ej.go ?_ (fun _ _ h => h))
      | refine Cj.cond rfl rfl (fun h => ?_) (fun h => ?_)
      | refine Cj.skip rfl (Ej.go ?_ (fun _ _ h => h))
      | (refine Cj.skip rfl (Ej.back (fun _ _ h => h) (by repeat (first | exact .refl | apply DropTo.tail)) ?_); repeat (first | exact trivial | refine ⟨rfl, ?_⟩))
      | refine Cj.seq rfl ?_
      | refine Cj.region rfl ?_))
      exact ⟨by unfold carpT baseT; rw [if_neg hp], hW.below⟩
theorem sText_ (x : S39) (h0 : 0 ≤ x.f0 ∧ x.f0 ≤ 500) (h1 : 0 ≤ x.f1 ∧ x.f1 ≤ 500) (h2 : 0 ≤ x.f2 ∧ x.f2 ≤ 4) (h3 : 0 ≤ x.f3 ∧ x.f3 ≤ 4) (w : World) : Calls Tryd.prog 12 #[.agg #[.int .i64 x.f0, .int .i64 x.f1, .int .i64 x.f2, .int .i64 x.f3, .int .i64 x.f4]] w fun e w' => e = .returned (.string (carpT x)) ∧ Below w.heap.size w w' := by
  by_cases hp : x.f3 > 0
  · exact sTextP x h0 h1 h2 h3 hp w
  · exact sTextN x h0 h1 h2 h3 hp w
set_option maxHeartbeats 4000000 in
theorem sNo1 (A0 : Option Addr) (c0 : Nat) (xs : List S39) (day looms mon at_ : Int) (kg : Nat) (hg : spec_l25Good.f kg day looms xs mon = some false) (w : World) (hr0 : Kd.C k39 w A0 xs.length xs) (hc0 : xs.length ≤ c0) : Calls Tryd.prog 5 #[.agg #[.int .i64 day, .int .i64 looms, .slice A0 xs.length c0, .int .i64 mon], .int .i64 at_] w fun e w' => e = .returned (.tuple #[.string ⟨#[]⟩, .bool false]) ∧ Below w.heap.size w w' := by
  let Rr : Ending → World → Prop := fun e w' => e = .returned (.tuple #[.string ⟨#[]⟩, .bool false]) ∧ Below w.heap.size w w'
  refine enterW (args := [.agg #[.int .i64 day, .int .i64 looms, .slice A0 xs.length c0, .int .i64 mon], .int .i64 at_]) [(fun w => Kd.C k39 w A0 xs.length xs)] (fun p hp W hb => by
    rcases List.mem_cons.1 hp with rfl | hp
    · exact Kd.C_below hr0 hb
    · cases hp) Tryd.func5 rfl rfl ?_
  show Cj Tryd.prog _ _ _ (bodyPost Tryd.prog Tryd.f5 Rr) _ _ _
  repeat (first
    | (apply gateO; first
      | refine Jl.yd (Y.mv rfl rfl) rfl rfl rfl ?_
      | refine Jl.yd (Y.asg rfl rfl) rfl rfl rfl ?_
      | refine Jl.yd (Y.ext rfl rfl rfl) rfl rfl rfl ?_
      | refine Jl.yd (Y.pickT rfl rfl rfl) rfl rfl rfl ?_
      | refine Jl.yd (Y.pickF rfl rfl rfl) rfl rfl rfl ?_
      | refine Jl.off rfl rfl rfl ?_
      | refine Jl.yd (Y.cmpF rfl rfl rfl rfl (by omega)) rfl rfl rfl ?_
      | refine Jl.yd (Y.cmpT rfl rfl rfl rfl (by omega)) rfl rfl rfl ?_
      | refine Jl.yd (Y.neqB rfl rfl rfl Tryd.underlying4) rfl rfl rfl ?_
      | refine Jl.yd (Y.cmp rfl rfl rfl rfl) rfl rfl rfl ?_
      | refine Jl.yd (Y.not rfl rfl) rfl rfl rfl ?_
      | refine Jl.yd (Y.arithN rfl rfl rfl rfl (by omega)) rfl rfl rfl ?_
      | refine Jl.yd (Y.arith64 rfl rfl rfl rfl) rfl rfl rfl ?_
      | refine Jl.yd (Y.loadA rfl rfl agg30 (by repeat (first | exact .head _ | refine .tail _ ?_)) (by rfl)) rfl rfl rfl ?_
      | refine Jl.yd (Y.load1 rfl rfl sc3 (by repeat (first | exact .head _ | refine .tail _ ?_)) (by rfl)) rfl rfl rfl ?_
      | refine Jl.yd (Y.load1 rfl rfl sc28 (by repeat (first | exact .head _ | refine .tail _ ?_)) (by rfl)) rfl rfl rfl ?_
      | refine Jl.yd (Y.fld0 rfl rfl fld30_2) rfl rfl rfl ?_
      | refine Jl.yd (Y.lenS Tryd.underlying28 rfl rfl rfl) rfl rfl rfl ?_
      | refine Jl.box (zs := [.int .i64 day, .int .i64 looms, .slice A0 xs.length c0, .int .i64 mon]) rfl rfl rfl rfl rfl (by rfl) (fun gs => ?_)
      | refine Jl.call1 (v := .bool false) rfl rfl rfl rfl en10 rfl (fun w hW => by with_reducible exact spec_l25Good.calls kg day looms _ _ xs mon false w (hW.fact (by repeat (first | exact memH | refine memT ?_))) hc0 hg) ?_
      | refine Jl.splitG rfl rfl (fun h => ?_) (fun h => ?_))
    | (apply gateE; first
      | refine Jl.nil (Ej.go ?_ (fun _ _ h => h))
      | (refine Jl.nil (Ej.back (fun _ _ h => h) (by repeat (first | exact .refl | apply DropTo.tail)) ?_); repeat (first | exact trivial | refine ⟨rfl, ?_⟩)))
    | (apply gateC; first
      | refine Cj.ret rfl (Ej.out2 (P := Tryd.prog) (fn := Tryd.f5) (R := Rr) (fun _ _ h => h) rfl rfl rfl (fun w' hW => ?_))
      | refine Cj.condF rfl rfl (Cj.skip rfl (Ej.go ?_ (fun _ _ h => h)))
      | (refine Cj.condF rfl rfl (Cj.skip rfl (Ej.back (fun _ _ h => h) (by repeat (first | exact .refl | apply DropTo.tail)) ?_)); repeat (first | exact trivial | refine ⟨rfl, ?_⟩))
      | refine Cj.condF rfl rfl ?_
      | refine Cj.condT rfl rfl ?_
      | refine Cj.exit rfl (Ej.go ?_ (fun _ _ h => h))
      | refine Cj.cond rfl rfl (fun h => ?_) (fun h => ?_)
      | refine Cj.skip rfl (Ej.go ?_ (fun _ _ h => h))
      | (refine Cj.skip rfl (Ej.back (fun _ _ h => h) (by repeat (first | exact .refl | apply DropTo.tail)) ?_); repeat (first | exact trivial | refine ⟨rfl, ?_⟩))
      | refine Cj.seq rfl ?_
      | refine Cj.region rfl ?_))
  exact ⟨rfl, hW.below⟩
set_option maxHeartbeats 4000000 in
theorem sNo2 (A0 : Option Addr) (c0 : Nat) (xs : List S39) (day looms mon at_ : Int) (kg : Nat) (hg : spec_l25Good.f kg day looms xs mon = some true) (hl8 : xs.length ≤ 8) (hin : spec_l1In.f at_ 0 ((xs.length : Int) - 1) = some false) (w : World) (hr0 : Kd.C k39 w A0 xs.length xs) (hc0 : xs.length ≤ c0) : Calls Tryd.prog 5 #[.agg #[.int .i64 day, .int .i64 looms, .slice A0 xs.length c0, .int .i64 mon], .int .i64 at_] w fun e w' => e = .returned (.tuple #[.string ⟨#[]⟩, .bool false]) ∧ Below w.heap.size w w' := by
  let Rr : Ending → World → Prop := fun e w' => e = .returned (.tuple #[.string ⟨#[]⟩, .bool false]) ∧ Below w.heap.size w w'
  refine enterW (args := [.agg #[.int .i64 day, .int .i64 looms, .slice A0 xs.length c0, .int .i64 mon], .int .i64 at_]) [(fun w => Kd.C k39 w A0 xs.length xs)] (fun p hp W hb => by
    rcases List.mem_cons.1 hp with rfl | hp
    · exact Kd.C_below hr0 hb
    · cases hp) Tryd.func5 rfl rfl ?_
  show Cj Tryd.prog _ _ _ (bodyPost Tryd.prog Tryd.f5 Rr) _ _ _
  repeat (first
    | (apply gateO; first
      | refine Jl.yd (Y.mv rfl rfl) rfl rfl rfl ?_
      | refine Jl.yd (Y.asg rfl rfl) rfl rfl rfl ?_
      | refine Jl.yd (Y.ext rfl rfl rfl) rfl rfl rfl ?_
      | refine Jl.yd (Y.pickT rfl rfl rfl) rfl rfl rfl ?_
      | refine Jl.yd (Y.pickF rfl rfl rfl) rfl rfl rfl ?_
      | refine Jl.off rfl rfl rfl ?_
      | refine Jl.yd (Y.cmpF rfl rfl rfl rfl (by omega)) rfl rfl rfl ?_
      | refine Jl.yd (Y.cmpT rfl rfl rfl rfl (by omega)) rfl rfl rfl ?_
      | refine Jl.yd (Y.neqB rfl rfl rfl Tryd.underlying4) rfl rfl rfl ?_
      | refine Jl.yd (Y.cmp rfl rfl rfl rfl) rfl rfl rfl ?_
      | refine Jl.yd (Y.not rfl rfl) rfl rfl rfl ?_
      | refine Jl.yd (Y.arithN rfl rfl rfl rfl (by omega)) rfl rfl rfl ?_
      | refine Jl.yd (Y.arith64 rfl rfl rfl rfl) rfl rfl rfl ?_
      | refine Jl.yd (Y.loadA rfl rfl agg30 (by repeat (first | exact .head _ | refine .tail _ ?_)) (by rfl)) rfl rfl rfl ?_
      | refine Jl.yd (Y.load1 rfl rfl sc3 (by repeat (first | exact .head _ | refine .tail _ ?_)) (by rfl)) rfl rfl rfl ?_
      | refine Jl.yd (Y.load1 rfl rfl sc28 (by repeat (first | exact .head _ | refine .tail _ ?_)) (by rfl)) rfl rfl rfl ?_
      | refine Jl.yd (Y.fld0 rfl rfl fld30_2) rfl rfl rfl ?_
      | refine Jl.yd (Y.lenS Tryd.underlying28 rfl rfl rfl) rfl rfl rfl ?_
      | refine Jl.box (zs := [.int .i64 day, .int .i64 looms, .slice A0 xs.length c0, .int .i64 mon]) rfl rfl rfl rfl rfl (by rfl) (fun gs => ?_)
      | refine Jl.call1 (v := .bool true) rfl rfl rfl rfl en10 rfl (fun w hW => by with_reducible exact spec_l25Good.calls kg day looms _ _ xs mon true w (hW.fact (by repeat (first | exact memH | refine memT ?_))) hc0 hg) ?_
      | refine Jl.call1 (v := .bool false) rfl rfl rfl rfl en11 rfl (fun w hW => (spec_l1In.calls at_ 0 ((xs.length : Int) - 1) false w hin).mono (fun _ _ h => ⟨h.1, bel_ h.2⟩)) ?_
      | refine Jl.splitG rfl rfl (fun h => ?_) (fun h => ?_))
    | (apply gateE; first
      | refine Jl.nil (Ej.go ?_ (fun _ _ h => h))
      | (refine Jl.nil (Ej.back (fun _ _ h => h) (by repeat (first | exact .refl | apply DropTo.tail)) ?_); repeat (first | exact trivial | refine ⟨rfl, ?_⟩)))
    | (apply gateC; first
      | refine Cj.ret rfl (Ej.out2 (P := Tryd.prog) (fn := Tryd.f5) (R := Rr) (fun _ _ h => h) rfl rfl rfl (fun w' hW => ?_))
      | refine Cj.condF rfl rfl (Cj.skip rfl (Ej.go ?_ (fun _ _ h => h)))
      | (refine Cj.condF rfl rfl (Cj.skip rfl (Ej.back (fun _ _ h => h) (by repeat (first | exact .refl | apply DropTo.tail)) ?_)); repeat (first | exact trivial | refine ⟨rfl, ?_⟩))
      | refine Cj.condF rfl rfl ?_
      | refine Cj.condT rfl rfl ?_
      | refine Cj.exit rfl (Ej.go ?_ (fun _ _ h => h))
      | refine Cj.cond rfl rfl (fun h => ?_) (fun h => ?_)
      | refine Cj.skip rfl (Ej.go ?_ (fun _ _ h => h))
      | (refine Cj.skip rfl (Ej.back (fun _ _ h => h) (by repeat (first | exact .refl | apply DropTo.tail)) ?_); repeat (first | exact trivial | refine ⟨rfl, ?_⟩))
      | refine Cj.seq rfl ?_
      | refine Cj.region rfl ?_))
  exact ⟨rfl, hW.below⟩
set_option maxHeartbeats 4000000 in
theorem iNo1 (A0 : Option Addr) (c0 : Nat) (xs : List S39) (day looms mon at_ : Int) (kg : Nat) (hg : impl_IsShop.f kg day looms xs mon = some false) (w : World) (htab : Lib.TabIs Tryd.prog w tabName .u64 Lib.pow10Tab) (hr0 : Kd.C k39 w A0 xs.length xs) (hc0 : xs.length ≤ c0) : Calls Tryd.prog 7 #[.agg #[.int .i64 day, .int .i64 looms, .slice A0 xs.length c0, .int .i64 mon], .int .i64 at_] w fun e w' => e = .returned (.tuple #[.string ⟨#[]⟩, .bool false]) ∧ Below w.heap.size w w' := by
  let Rr : Ending → World → Prop := fun e w' => e = .returned (.tuple #[.string ⟨#[]⟩, .bool false]) ∧ Below w.heap.size w w'
  refine enterW (args := [.agg #[.int .i64 day, .int .i64 looms, .slice A0 xs.length c0, .int .i64 mon], .int .i64 at_]) [(fun w => Kd.C k39 w A0 xs.length xs), (fun W => Lib.TabIs Tryd.prog W tabName .u64 Lib.pow10Tab)] (fun p hp W hb => by
    rcases List.mem_cons.1 hp with rfl | hp
    · exact Kd.C_below hr0 hb
    · rw [List.mem_singleton.1 hp]; exact tab_below htab hb) Tryd.func7 rfl rfl ?_
  show Cj Tryd.prog _ _ _ (bodyPost Tryd.prog Tryd.f7 Rr) _ _ _
  repeat (first
    | (apply gateO; first
      | refine Jl.yd (Y.mv rfl rfl) rfl rfl rfl ?_
      | refine Jl.yd (Y.asg rfl rfl) rfl rfl rfl ?_
      | refine Jl.yd (Y.ext rfl rfl rfl) rfl rfl rfl ?_
      | refine Jl.yd (Y.pickT rfl rfl rfl) rfl rfl rfl ?_
      | refine Jl.yd (Y.pickF rfl rfl rfl) rfl rfl rfl ?_
      | refine Jl.off rfl rfl rfl ?_
      | refine Jl.yd (Y.cmpF rfl rfl rfl rfl (by omega)) rfl rfl rfl ?_
      | refine Jl.yd (Y.cmpT rfl rfl rfl rfl (by omega)) rfl rfl rfl ?_
      | refine Jl.yd (Y.neqB rfl rfl rfl Tryd.underlying4) rfl rfl rfl ?_
      | refine Jl.yd (Y.cmp rfl rfl rfl rfl) rfl rfl rfl ?_
      | refine Jl.yd (Y.not rfl rfl) rfl rfl rfl ?_
      | refine Jl.yd (Y.arithN rfl rfl rfl rfl (by omega)) rfl rfl rfl ?_
      | refine Jl.yd (Y.arith64 rfl rfl rfl rfl) rfl rfl rfl ?_
      | refine Jl.yd (Y.loadA rfl rfl agg30 (by repeat (first | exact .head _ | refine .tail _ ?_)) (by rfl)) rfl rfl rfl ?_
      | refine Jl.yd (Y.load1 rfl rfl sc3 (by repeat (first | exact .head _ | refine .tail _ ?_)) (by rfl)) rfl rfl rfl ?_
      | refine Jl.yd (Y.load1 rfl rfl sc28 (by repeat (first | exact .head _ | refine .tail _ ?_)) (by rfl)) rfl rfl rfl ?_
      | refine Jl.yd (Y.fld0 rfl rfl fld30_2) rfl rfl rfl ?_
      | refine Jl.yd (Y.lenS Tryd.underlying28 rfl rfl rfl) rfl rfl rfl ?_
      | refine Jl.box (zs := [.int .i64 day, .int .i64 looms, .slice A0 xs.length c0, .int .i64 mon]) rfl rfl rfl rfl rfl (by rfl) (fun gs => ?_)
      | refine Jl.call1 (v := .bool false) rfl rfl rfl rfl en14 rfl (fun w hW => by with_reducible exact impl_IsShop.calls kg day looms _ _ xs mon false w (hW.fact (by repeat (first | exact memH | refine memT ?_))) hc0 hg) ?_
      | refine Jl.splitG rfl rfl (fun h => ?_) (fun h => ?_))
    | (apply gateE; first
      | refine Jl.nil (Ej.go ?_ (fun _ _ h => h))
      | (refine Jl.nil (Ej.back (fun _ _ h => h) (by repeat (first | exact .refl | apply DropTo.tail)) ?_); repeat (first | exact trivial | refine ⟨rfl, ?_⟩)))
    | (apply gateC; first
      | refine Cj.ret rfl (Ej.out2 (P := Tryd.prog) (fn := Tryd.f7) (R := Rr) (fun _ _ h => h) rfl rfl rfl (fun w' hW => ?_))
      | refine Cj.condF rfl rfl (Cj.skip rfl (Ej.go ?_ (fun _ _ h => h)))
      | (refine Cj.condF rfl rfl (Cj.skip rfl (Ej.back (fun _ _ h => h) (by repeat (first | exact .refl | apply DropTo.tail)) ?_)); repeat (first | exact trivial | refine ⟨rfl, ?_⟩))
      | refine Cj.condF rfl rfl ?_
      | refine Cj.condT rfl rfl ?_
      | refine Cj.exit rfl (Ej.go ?_ (fun _ _ h => h))
      | refine Cj.cond rfl rfl (fun h => ?_) (fun h => ?_)
      | refine Cj.skip rfl (Ej.go ?_ (fun _ _ h => h))
      | (refine Cj.skip rfl (Ej.back (fun _ _ h => h) (by repeat (first | exact .refl | apply DropTo.tail)) ?_); repeat (first | exact trivial | refine ⟨rfl, ?_⟩))
      | refine Cj.seq rfl ?_
      | refine Cj.region rfl ?_))
  exact ⟨rfl, hW.below⟩
set_option maxHeartbeats 4000000 in
theorem iNo2 (A0 : Option Addr) (c0 : Nat) (xs : List S39) (day looms mon at_ : Int) (kg : Nat) (hg : impl_IsShop.f kg day looms xs mon = some true) (hl8 : xs.length ≤ 8) (hin : impl_in.f at_ 0 ((xs.length : Int) - 1) = some false) (w : World) (htab : Lib.TabIs Tryd.prog w tabName .u64 Lib.pow10Tab) (hr0 : Kd.C k39 w A0 xs.length xs) (hc0 : xs.length ≤ c0) : Calls Tryd.prog 7 #[.agg #[.int .i64 day, .int .i64 looms, .slice A0 xs.length c0, .int .i64 mon], .int .i64 at_] w fun e w' => e = .returned (.tuple #[.string ⟨#[]⟩, .bool false]) ∧ Below w.heap.size w w' := by
  let Rr : Ending → World → Prop := fun e w' => e = .returned (.tuple #[.string ⟨#[]⟩, .bool false]) ∧ Below w.heap.size w w'
  refine enterW (args := [.agg #[.int .i64 day, .int .i64 looms, .slice A0 xs.length c0, .int .i64 mon], .int .i64 at_]) [(fun w => Kd.C k39 w A0 xs.length xs), (fun W => Lib.TabIs Tryd.prog W tabName .u64 Lib.pow10Tab)] (fun p hp W hb => by
    rcases List.mem_cons.1 hp with rfl | hp
    · exact Kd.C_below hr0 hb
    · rw [List.mem_singleton.1 hp]; exact tab_below htab hb) Tryd.func7 rfl rfl ?_
  show Cj Tryd.prog _ _ _ (bodyPost Tryd.prog Tryd.f7 Rr) _ _ _
  repeat (first
    | (apply gateO; first
      | refine Jl.yd (Y.mv rfl rfl) rfl rfl rfl ?_
      | refine Jl.yd (Y.asg rfl rfl) rfl rfl rfl ?_
      | refine Jl.yd (Y.ext rfl rfl rfl) rfl rfl rfl ?_
      | refine Jl.yd (Y.pickT rfl rfl rfl) rfl rfl rfl ?_
      | refine Jl.yd (Y.pickF rfl rfl rfl) rfl rfl rfl ?_
      | refine Jl.off rfl rfl rfl ?_
      | refine Jl.yd (Y.cmpF rfl rfl rfl rfl (by omega)) rfl rfl rfl ?_
      | refine Jl.yd (Y.cmpT rfl rfl rfl rfl (by omega)) rfl rfl rfl ?_
      | refine Jl.yd (Y.neqB rfl rfl rfl Tryd.underlying4) rfl rfl rfl ?_
      | refine Jl.yd (Y.cmp rfl rfl rfl rfl) rfl rfl rfl ?_
      | refine Jl.yd (Y.not rfl rfl) rfl rfl rfl ?_
      | refine Jl.yd (Y.arithN rfl rfl rfl rfl (by omega)) rfl rfl rfl ?_
      | refine Jl.yd (Y.arith64 rfl rfl rfl rfl) rfl rfl rfl ?_
      | refine Jl.yd (Y.loadA rfl rfl agg30 (by repeat (first | exact .head _ | refine .tail _ ?_)) (by rfl)) rfl rfl rfl ?_
      | refine Jl.yd (Y.load1 rfl rfl sc3 (by repeat (first | exact .head _ | refine .tail _ ?_)) (by rfl)) rfl rfl rfl ?_
      | refine Jl.yd (Y.load1 rfl rfl sc28 (by repeat (first | exact .head _ | refine .tail _ ?_)) (by rfl)) rfl rfl rfl ?_
      | refine Jl.yd (Y.fld0 rfl rfl fld30_2) rfl rfl rfl ?_
      | refine Jl.yd (Y.lenS Tryd.underlying28 rfl rfl rfl) rfl rfl rfl ?_
      | refine Jl.box (zs := [.int .i64 day, .int .i64 looms, .slice A0 xs.length c0, .int .i64 mon]) rfl rfl rfl rfl rfl (by rfl) (fun gs => ?_)
      | refine Jl.call1 (v := .bool true) rfl rfl rfl rfl en14 rfl (fun w hW => by with_reducible exact impl_IsShop.calls kg day looms _ _ xs mon true w (hW.fact (by repeat (first | exact memH | refine memT ?_))) hc0 hg) ?_
      | refine Jl.call1 (v := .bool false) rfl rfl rfl rfl en15 rfl (fun w hW => (impl_in.calls at_ 0 ((xs.length : Int) - 1) false w hin).mono (fun _ _ h => ⟨h.1, bel_ h.2⟩)) ?_
      | refine Jl.splitG rfl rfl (fun h => ?_) (fun h => ?_))
    | (apply gateE; first
      | refine Jl.nil (Ej.go ?_ (fun _ _ h => h))
      | (refine Jl.nil (Ej.back (fun _ _ h => h) (by repeat (first | exact .refl | apply DropTo.tail)) ?_); repeat (first | exact trivial | refine ⟨rfl, ?_⟩)))
    | (apply gateC; first
      | refine Cj.ret rfl (Ej.out2 (P := Tryd.prog) (fn := Tryd.f7) (R := Rr) (fun _ _ h => h) rfl rfl rfl (fun w' hW => ?_))
      | refine Cj.condF rfl rfl (Cj.skip rfl (Ej.go ?_ (fun _ _ h => h)))
      | (refine Cj.condF rfl rfl (Cj.skip rfl (Ej.back (fun _ _ h => h) (by repeat (first | exact .refl | apply DropTo.tail)) ?_)); repeat (first | exact trivial | refine ⟨rfl, ?_⟩))
      | refine Cj.condF rfl rfl ?_
      | refine Cj.condT rfl rfl ?_
      | refine Cj.exit rfl (Ej.go ?_ (fun _ _ h => h))
      | refine Cj.cond rfl rfl (fun h => ?_) (fun h => ?_)
      | refine Cj.skip rfl (Ej.go ?_ (fun _ _ h => h))
      | (refine Cj.skip rfl (Ej.back (fun _ _ h => h) (by repeat (first | exact .refl | apply DropTo.tail)) ?_); repeat (first | exact trivial | refine ⟨rfl, ?_⟩))
      | refine Cj.seq rfl ?_
      | refine Cj.region rfl ?_))
  exact ⟨rfl, hW.below⟩
set_option maxHeartbeats 4000000 in
theorem sYes (A0 : Option Addr) (c0 : Nat) (xs : List S39) (day looms mon at_ : Int) (kg : Nat) (hg : spec_l25Good.f kg day looms xs mon = some true) (hl8 : xs.length ≤ 8) (hin : spec_l1In.f at_ 0 ((xs.length : Int) - 1) = some true) (hat : 0 ≤ at_ ∧ at_ < (xs.length : Int)) (x : S39) (hx : xs.getD at_.toNat z39 = x) (h0 : 0 ≤ x.f0 ∧ x.f0 ≤ 500) (h1 : 0 ≤ x.f1 ∧ x.f1 ≤ 500) (h2 : 0 ≤ x.f2 ∧ x.f2 ≤ 4) (h3 : 0 ≤ x.f3 ∧ x.f3 ≤ 4) (w : World) (hr0 : Kd.C k39 w A0 xs.length xs) (hc0 : xs.length ≤ c0) : Calls Tryd.prog 5 #[.agg #[.int .i64 day, .int .i64 looms, .slice A0 xs.length c0, .int .i64 mon], .int .i64 at_] w fun e w' => e = .returned (.tuple #[.string (carpT x), .bool true]) ∧ Below w.heap.size w w' := by
  let Rr : Ending → World → Prop := fun e w' => e = .returned (.tuple #[.string (carpT x), .bool true]) ∧ Below w.heap.size w w'
  obtain ⟨ad0, he0, _⟩ := hr0.2.2 (by omega)
  subst he0
  have hus : ([.int .i64 (xs.getD at_.toNat z39).f0, .int .i64 (xs.getD at_.toNat z39).f1, .int .i64 (xs.getD at_.toNat z39).f2, .int .i64 (xs.getD at_.toNat z39).f3, .int .i64 (xs.getD at_.toNat z39).f4] : List Value) = [.int .i64 x.f0, .int .i64 x.f1, .int .i64 x.f2, .int .i64 x.f3, .int .i64 x.f4] := by rw [hx]
  refine enterW (args := [.agg #[.int .i64 day, .int .i64 looms, .slice (some ad0) xs.length c0, .int .i64 mon], .int .i64 at_]) [(fun w => Kd.C k39 w (some ad0) xs.length xs)] (fun p hp W hb => by
    rcases List.mem_cons.1 hp with rfl | hp
    · exact Kd.C_below hr0 hb
    · cases hp) Tryd.func5 rfl rfl ?_
  show Cj Tryd.prog _ _ _ (bodyPost Tryd.prog Tryd.f5 Rr) _ _ _
  repeat (first
    | (apply gateO; first
      | refine Jl.yd (Y.mv rfl rfl) rfl rfl rfl ?_
      | refine Jl.yd (Y.asg rfl rfl) rfl rfl rfl ?_
      | refine Jl.yd (Y.ext rfl rfl rfl) rfl rfl rfl ?_
      | refine Jl.yd (Y.pickT rfl rfl rfl) rfl rfl rfl ?_
      | refine Jl.yd (Y.pickF rfl rfl rfl) rfl rfl rfl ?_
      | refine Jl.off rfl rfl rfl ?_
      | refine Jl.yd (Y.cmpF rfl rfl rfl rfl (by omega)) rfl rfl rfl ?_
      | refine Jl.yd (Y.cmpT rfl rfl rfl rfl (by omega)) rfl rfl rfl ?_
      | refine Jl.yd (Y.neqB rfl rfl rfl Tryd.underlying4) rfl rfl rfl ?_
      | refine Jl.yd (Y.cmp rfl rfl rfl rfl) rfl rfl rfl ?_
      | refine Jl.yd (Y.not rfl rfl) rfl rfl rfl ?_
      | refine Jl.yd (Y.arithN rfl rfl rfl rfl (by omega)) rfl rfl rfl ?_
      | refine Jl.yd (Y.arith64 rfl rfl rfl rfl) rfl rfl rfl ?_
      | refine Jl.yd (Y.loadA rfl rfl agg30 (by repeat (first | exact .head _ | refine .tail _ ?_)) (by rfl)) rfl rfl rfl ?_
      | refine Jl.yd (Y.load1 rfl rfl sc3 (by repeat (first | exact .head _ | refine .tail _ ?_)) (by rfl)) rfl rfl rfl ?_
      | refine Jl.yd (Y.load1 rfl rfl sc28 (by repeat (first | exact .head _ | refine .tail _ ?_)) (by rfl)) rfl rfl rfl ?_
      | refine Jl.yd (Y.fld0 rfl rfl fld30_2) rfl rfl rfl ?_
      | refine Jl.yd (Y.lenS Tryd.underlying28 rfl rfl rfl) rfl rfl rfl ?_
      | refine Jl.box (zs := [.int .i64 day, .int .i64 looms, .slice (some ad0) xs.length c0, .int .i64 mon]) rfl rfl rfl rfl rfl (by rfl) (fun gs => ?_)
      | refine Jl.call1 (v := .bool true) rfl rfl rfl rfl en10 rfl (fun w hW => by with_reducible exact spec_l25Good.calls kg day looms _ _ xs mon true w (hW.fact (by repeat (first | exact memH | refine memT ?_))) hc0 hg) ?_
      | refine Jl.call1 (v := .bool true) rfl rfl rfl rfl en11 rfl (fun w hW => (spec_l1In.calls at_ 0 ((xs.length : Int) - 1) true w hin).mono (fun _ _ h => ⟨h.1, bel_ h.2⟩)) ?_
      | refine Jl.yd (Y.idx rfl rfl rfl el28 (by omega) (by omega)) rfl rfl rfl ?_
      | refine Jl.yd (Y.loadK z39 [.int .i64 x.f0, .int .i64 x.f1, .int .i64 x.f2, .int .i64 x.f3, .int .i64 x.f4] rfl rfl agg39 (by repeat (first | exact .head _ | refine .tail _ ?_)) at_ (by omega) (by omega) (by rfl) (fun w cs h => (k39_open h).trans hus) (by rfl)) rfl rfl rfl ?_
      | refine Jl.call1 (v := .string (carpT x)) rfl rfl rfl rfl en12 rfl (fun w hW => sText_ x h0 h1 h2 h3 w) ?_
      | refine Jl.splitG rfl rfl (fun h => ?_) (fun h => ?_))
    | (apply gateE; first
      | refine Jl.nil (Ej.go ?_ (fun _ _ h => h))
      | (refine Jl.nil (Ej.back (fun _ _ h => h) (by repeat (first | exact .refl | apply DropTo.tail)) ?_); repeat (first | exact trivial | refine ⟨rfl, ?_⟩)))
    | (apply gateC; first
      | refine Cj.ret rfl (Ej.out2 (P := Tryd.prog) (fn := Tryd.f5) (R := Rr) (fun _ _ h => h) rfl rfl rfl (fun w' hW => ?_))
      | refine Cj.condF rfl rfl (Cj.skip rfl (Ej.go ?_ (fun _ _ h => h)))
      | (refine Cj.condF rfl rfl (Cj.skip rfl (Ej.back (fun _ _ h => h) (by repeat (first | exact .refl | apply DropTo.tail)) ?_)); repeat (first | exact trivial | refine ⟨rfl, ?_⟩))
      | refine Cj.condF rfl rfl ?_
      | refine Cj.condT rfl rfl ?_
      | refine Cj.exit rfl (Ej.go ?_ (fun _ _ h => h))
      | refine Cj.cond rfl rfl (fun h => ?_) (fun h => ?_)
      | refine Cj.skip rfl (Ej.go ?_ (fun _ _ h => h))
      | (refine Cj.skip rfl (Ej.back (fun _ _ h => h) (by repeat (first | exact .refl | apply DropTo.tail)) ?_); repeat (first | exact trivial | refine ⟨rfl, ?_⟩))
      | refine Cj.seq rfl ?_
      | refine Cj.region rfl ?_))
  exact ⟨rfl, hW.below⟩
set_option maxHeartbeats 4000000 in
theorem iYesP (A0 : Option Addr) (c0 : Nat) (xs : List S39) (day looms mon at_ : Int) (kg : Nat) (hg : impl_IsShop.f kg day looms xs mon = some true) (hl8 : xs.length ≤ 8) (hin : impl_in.f at_ 0 ((xs.length : Int) - 1) = some true) (hat : 0 ≤ at_ ∧ at_ < (xs.length : Int)) (x : S39) (hx : xs.getD at_.toNat z39 = x) (h0 : 0 ≤ x.f0 ∧ x.f0 ≤ 500) (h1 : 0 ≤ x.f1 ∧ x.f1 ≤ 500) (h2 : 0 ≤ x.f2 ∧ x.f2 ≤ 4) (h3 : 0 ≤ x.f3 ∧ x.f3 ≤ 4) (hp : x.f3 > 0) (w : World) (htab : Lib.TabIs Tryd.prog w tabName .u64 Lib.pow10Tab) (hr0 : Kd.C k39 w A0 xs.length xs) (hc0 : xs.length ≤ c0) : Calls Tryd.prog 7 #[.agg #[.int .i64 day, .int .i64 looms, .slice A0 xs.length c0, .int .i64 mon], .int .i64 at_] w fun e w' => e = .returned (.tuple #[.string (carpT x), .bool true]) ∧ Below w.heap.size w w' := by
  let Rr : Ending → World → Prop := fun e w' => e = .returned (.tuple #[.string (carpT x), .bool true]) ∧ Below w.heap.size w w'
  obtain ⟨ad0, he0, _⟩ := hr0.2.2 (by omega)
  subst he0
  have hus : ([.int .i64 (xs.getD at_.toNat z39).f0, .int .i64 (xs.getD at_.toNat z39).f1, .int .i64 (xs.getD at_.toNat z39).f2, .int .i64 (xs.getD at_.toNat z39).f3, .int .i64 (xs.getD at_.toNat z39).f4] : List Value) = [.int .i64 x.f0, .int .i64 x.f1, .int .i64 x.f2, .int .i64 x.f3, .int .i64 x.f4] := by rw [hx]
  have s0 := dec_size x.f0 (by omega) (by omega)
  have s1 := dec_size x.f1 (by omega) (by omega)
  have s3 := dec_size x.f3 (by omega) (by omega)
  have s2 := nmT_size x.f2
  have hnm := nm_at x.f2 h2
  refine enterW (args := [.agg #[.int .i64 day, .int .i64 looms, .slice (some ad0) xs.length c0, .int .i64 mon], .int .i64 at_]) [(fun w => Kd.C k39 w (some ad0) xs.length xs), (fun W => Lib.TabIs Tryd.prog W tabName .u64 Lib.pow10Tab)] (fun p hp W hb => by
    rcases List.mem_cons.1 hp with rfl | hp
    · exact Kd.C_below hr0 hb
    · rw [List.mem_singleton.1 hp]; exact tab_below htab hb) Tryd.func7 rfl rfl ?_
  show Cj Tryd.prog _ _ _ (bodyPost Tryd.prog Tryd.f7 Rr) _ _ _
  repeat (first
    | (apply gateO; first
      | refine Jl.yd (Y.mv rfl rfl) rfl rfl rfl ?_
      | refine Jl.yd (Y.asg rfl rfl) rfl rfl rfl ?_
      | refine Jl.yd (Y.ext rfl rfl rfl) rfl rfl rfl ?_
      | refine Jl.yd (Y.pickT rfl rfl rfl) rfl rfl rfl ?_
      | refine Jl.yd (Y.pickF rfl rfl rfl) rfl rfl rfl ?_
      | refine Jl.off rfl rfl rfl ?_
      | refine Jl.yd (Y.cmpF rfl rfl rfl rfl (by omega)) rfl rfl rfl ?_
      | refine Jl.yd (Y.cmpT rfl rfl rfl rfl (by omega)) rfl rfl rfl ?_
      | refine Jl.yd (Y.neqB rfl rfl rfl Tryd.underlying4) rfl rfl rfl ?_
      | refine Jl.yd (Y.cmp rfl rfl rfl rfl) rfl rfl rfl ?_
      | refine Jl.yd (Y.not rfl rfl) rfl rfl rfl ?_
      | refine Jl.yd (Y.arithN rfl rfl rfl rfl (by omega)) rfl rfl rfl ?_
      | refine Jl.yd (Y.arith64 rfl rfl rfl rfl) rfl rfl rfl ?_
      | refine Jl.yd (Y.loadA rfl rfl agg30 (by repeat (first | exact .head _ | refine .tail _ ?_)) (by rfl)) rfl rfl rfl ?_
      | refine Jl.yd (Y.loadA rfl rfl agg39 (by repeat (first | exact .head _ | refine .tail _ ?_)) (by rfl)) rfl rfl rfl ?_
      | refine Jl.yd (Y.loadA rfl rfl agg41 (by repeat (first | exact .head _ | refine .tail _ ?_)) (by rfl)) rfl rfl rfl ?_
      | refine Jl.yd (Y.load1 rfl rfl sc3 (by repeat (first | exact .head _ | refine .tail _ ?_)) (by rfl)) rfl rfl rfl ?_
      | refine Jl.yd (Y.load1 rfl rfl sc28 (by repeat (first | exact .head _ | refine .tail _ ?_)) (by rfl)) rfl rfl rfl ?_
      | refine Jl.yd (Y.fld0 rfl rfl fld30_2) rfl rfl rfl ?_
      | refine Jl.yd (Y.fld0 rfl rfl fld39_3) rfl rfl rfl ?_
      | refine Jl.alloc rfl rfl rfl rfl zero39 (fun g => ?_)
      | refine Jl.alloc rfl rfl rfl rfl zero41 (fun g => ?_)
      | refine Jl.storeA rfl rfl rfl rfl rfl sz39 (by repeat (first | exact .z | apply SetAt.s)) (by rfl) (by rfl) ?_
      | refine Jl.storeA rfl rfl rfl rfl rfl sz41 (by repeat (first | exact .z | apply SetAt.s)) (by rfl) (by rfl) ?_
      | refine Jl.yd (Y.lenS Tryd.underlying28 rfl rfl rfl) rfl rfl rfl ?_
      | refine Jl.box (zs := [.int .i64 day, .int .i64 looms, .slice (some ad0) xs.length c0, .int .i64 mon]) rfl rfl rfl rfl rfl (by rfl) (fun gs => ?_)
      | refine Jl.call1 (v := .bool true) rfl rfl rfl rfl en14 rfl (fun w hW => by with_reducible exact impl_IsShop.calls kg day looms _ _ xs mon true w (hW.fact (by repeat (first | exact memH | refine memT ?_))) hc0 hg) ?_
      | refine Jl.call1 (v := .bool true) rfl rfl rfl rfl en15 rfl (fun w hW => (impl_in.calls at_ 0 ((xs.length : Int) - 1) true w hin).mono (fun _ _ h => ⟨h.1, bel_ h.2⟩)) ?_
      | refine Jl.yd (Y.idx rfl rfl rfl el28 (by omega) (by omega)) rfl rfl rfl ?_
      | refine Jl.yd (Y.loadK z39 [.int .i64 x.f0, .int .i64 x.f1, .int .i64 x.f2, .int .i64 x.f3, .int .i64 x.f4] rfl rfl agg39 (by repeat (first | exact .head _ | refine .tail _ ?_)) at_ (by omega) (by omega) (by rfl) (fun w cs h => (k39_open h).trans hus) (by rfl)) rfl rfl rfl ?_
      | refine Jl.yd (Y.const (v := .agg #[.string ⟨#[119, 97, 105, 116, 115]⟩, .string ⟨#[119, 111, 118, 101, 110]⟩, .string ⟨#[111, 102, 102]⟩, .string ⟨#[119, 97, 115, 104, 101, 100]⟩, .string ⟨#[115, 111, 108, 100]⟩]) (by intro a w; kernel_rfl)) rfl rfl rfl ?_
      | refine Jl.splitG rfl rfl (fun h => ?_) (fun h => ?_))
    | (apply gateE; first
      | refine Jl.nil (Ej.go ?_ (fun _ _ h => h))
      | (refine Jl.nil (Ej.back (fun _ _ h => h) (by repeat (first | exact .refl | apply DropTo.tail)) ?_); repeat (first | exact trivial | refine ⟨rfl, ?_⟩)))
    | (apply gateC; first
      | refine Cj.condF rfl rfl (Cj.skip rfl (Ej.go ?_ (fun _ _ h => h)))
      | (refine Cj.condF rfl rfl (Cj.skip rfl (Ej.back (fun _ _ h => h) (by repeat (first | exact .refl | apply DropTo.tail)) ?_)); repeat (first | exact trivial | refine ⟨rfl, ?_⟩))
      | refine Cj.condF rfl rfl ?_
      | refine Cj.condT rfl rfl ?_
      | refine Cj.exit rfl (Ej.go ?_ (fun _ _ h => h))
      | refine Cj.cond rfl rfl (fun h => ?_) (fun h => ?_)
      | refine Cj.skip rfl (Ej.go ?_ (fun _ _ h => h))
      | (refine Cj.skip rfl (Ej.back (fun _ _ h => h) (by repeat (first | exact .refl | apply DropTo.tail)) ?_); repeat (first | exact trivial | refine ⟨rfl, ?_⟩))
      | refine Cj.seq rfl ?_
      | refine Cj.region rfl ?_))
  refine Cj.regionJ rfl [] mixed ?_
  refine Jw.take 0 rfl (by decide +kernel) (by intro c a d v w h; cases d <;> exact h) (fun w => Y.fld0 rfl rfl fld39_2) rfl rfl rfl ?_
  refine Jw.take 5 rfl (by decide +kernel) (by intro c a d v w h; cases d <;> exact h) (fun w => Y.fld0 rfl rfl fld39_1) rfl rfl rfl ?_
  refine Jw.take 10 rfl (by decide +kernel) (by intro c a d v w h; cases d <;> exact h) (fun w => Y.fld0 rfl rfl fld39_0) rfl rfl rfl ?_
  refine Jw.takeR 1 rfl (by decide +kernel) (by intro c a d v w h; cases d <;> exact h) (Y.load1 rfl rfl sc3 (by repeat (first | exact .head _ | refine .tail _ ?_)) (by rfl)) rfl rfl rfl ?_
  refine Jw.takeR 6 rfl (by decide +kernel) (by intro c a d v w h; cases d <;> exact h) (Y.load1 rfl rfl sc3 (by repeat (first | exact .head _ | refine .tail _ ?_)) (by rfl)) rfl rfl rfl ?_
  refine Jw.takeR 11 rfl (by decide +kernel) (by intro c a d v w h; cases d <;> exact h) (Y.load1 rfl rfl sc3 (by repeat (first | exact .head _ | refine .tail _ ?_)) (by rfl)) rfl rfl rfl ?_
  refine Jw.take 2 rfl (by decide +kernel) (by intro c a d v w h; cases d <;> exact h) (fun w => Y.idxA rfl rfl rfl arr41 (by omega) (by omega)) rfl rfl rfl ?_
  refine Jw.takeR 3 rfl (by decide +kernel) (by intro c a d v w h; cases d <;> exact h) (Y.load1 rfl rfl sc9 (by repeat (first | exact .head _ | refine .tail _ ?_)) hnm) rfl rfl rfl ?_
  refine Jw.take 4 rfl (by decide +kernel) (by intro c a d v w h; cases d <;> exact h) (fun w => Y.cat rfl rfl rfl (by (try simp only [ByteArray.size_append', ByteArray.size_mk', List.size_toArray, List.length_cons, List.length_nil]); omega)) rfl rfl rfl ?_
  refine Jw.step (mkD [] []) 7 rfl (by decide +kernel) rfl rfl ?_
  refine Jl.call1 (v := .string (dec x.f1)) rfl rfl rfl rfl en16 rfl (fun w hW => dec_ x.f1 (by omega) (by omega) w (hW.at 1 rfl)) ?_
  refine Jl.jw ?_
  refine Jw.take 8 rfl (by decide +kernel) (by intro c a d v w h; cases d <;> exact h) (fun w => Y.cat rfl rfl rfl (by (try simp only [ByteArray.size_append', ByteArray.size_mk', List.size_toArray, List.length_cons, List.length_nil]); omega)) rfl rfl rfl ?_
  refine Jw.take 9 rfl (by decide +kernel) (by intro c a d v w h; cases d <;> exact h) (fun w => Y.cat rfl rfl rfl (by (try simp only [ByteArray.size_append', ByteArray.size_mk', List.size_toArray, List.length_cons, List.length_nil]); omega)) rfl rfl rfl ?_
  refine Jw.step (mkD [] []) 12 rfl (by decide +kernel) rfl rfl ?_
  refine Jl.call1 (v := .string (dec x.f0)) rfl rfl rfl rfl en16 rfl (fun w hW => dec_ x.f0 (by omega) (by omega) w (hW.at 1 rfl)) ?_
  refine Jl.jw ?_
  refine Jw.take 13 rfl (by decide +kernel) (by intro c a d v w h; cases d <;> exact h) (fun w => Y.cat rfl rfl rfl (by (try simp only [ByteArray.size_append', ByteArray.size_mk', List.size_toArray, List.length_cons, List.length_nil]); omega)) rfl rfl rfl ?_
  refine Jw.take 14 rfl (by decide +kernel) (by intro c a d v w h; cases d <;> exact h) (fun w => Y.asg rfl rfl) rfl rfl rfl ?_
  refine Jw.done (by decide +kernel) (Ej.go ?_ (fun _ _ h => h))
  repeat (first
    | (apply gateO; first
      | refine Jl.yd (Y.mv rfl rfl) rfl rfl rfl ?_
      | refine Jl.yd (Y.asg rfl rfl) rfl rfl rfl ?_
      | refine Jl.yd (Y.ext rfl rfl rfl) rfl rfl rfl ?_
      | refine Jl.yd (Y.pickT rfl rfl rfl) rfl rfl rfl ?_
      | refine Jl.yd (Y.pickF rfl rfl rfl) rfl rfl rfl ?_
      | refine Jl.off rfl rfl rfl ?_
      | refine Jl.yd (Y.cmpF rfl rfl rfl rfl (by omega)) rfl rfl rfl ?_
      | refine Jl.yd (Y.cmpT rfl rfl rfl rfl (by omega)) rfl rfl rfl ?_
      | refine Jl.yd (Y.neqB rfl rfl rfl Tryd.underlying4) rfl rfl rfl ?_
      | refine Jl.yd (Y.cmp rfl rfl rfl rfl) rfl rfl rfl ?_
      | refine Jl.yd (Y.not rfl rfl) rfl rfl rfl ?_
      | refine Jl.yd (Y.arithN rfl rfl rfl rfl (by omega)) rfl rfl rfl ?_
      | refine Jl.yd (Y.arith64 rfl rfl rfl rfl) rfl rfl rfl ?_
      | refine Jl.yd (Y.loadA rfl rfl agg30 (by repeat (first | exact .head _ | refine .tail _ ?_)) (by rfl)) rfl rfl rfl ?_
      | refine Jl.yd (Y.loadA rfl rfl agg39 (by repeat (first | exact .head _ | refine .tail _ ?_)) (by rfl)) rfl rfl rfl ?_
      | refine Jl.yd (Y.loadA rfl rfl agg41 (by repeat (first | exact .head _ | refine .tail _ ?_)) (by rfl)) rfl rfl rfl ?_
      | refine Jl.yd (Y.load1 rfl rfl sc3 (by repeat (first | exact .head _ | refine .tail _ ?_)) (by rfl)) rfl rfl rfl ?_
      | refine Jl.yd (Y.load1 rfl rfl sc28 (by repeat (first | exact .head _ | refine .tail _ ?_)) (by rfl)) rfl rfl rfl ?_
      | refine Jl.yd (Y.fld0 rfl rfl fld30_2) rfl rfl rfl ?_
      | refine Jl.yd (Y.fld0 rfl rfl fld39_3) rfl rfl rfl ?_
      | refine Jl.alloc rfl rfl rfl rfl zero39 (fun g => ?_)
      | refine Jl.alloc rfl rfl rfl rfl zero41 (fun g => ?_)
      | refine Jl.storeA rfl rfl rfl rfl rfl sz39 (by repeat (first | exact .z | apply SetAt.s)) (by rfl) (by rfl) ?_
      | refine Jl.storeA rfl rfl rfl rfl rfl sz41 (by repeat (first | exact .z | apply SetAt.s)) (by rfl) (by rfl) ?_
      | refine Jl.yd (Y.lenS Tryd.underlying28 rfl rfl rfl) rfl rfl rfl ?_
      | refine Jl.yd (Y.cat rfl rfl rfl (by (try simp only [ByteArray.size_append', ByteArray.size_mk', List.size_toArray, List.length_cons, List.length_nil]); omega)) rfl rfl rfl ?_
      | refine Jl.call1 (v := .string (dec x.f3)) rfl rfl rfl rfl en16 rfl (fun w hW => dec_ x.f3 (by omega) (by omega) w (hW.at 1 rfl)) ?_
      | refine Jl.splitG rfl rfl (fun h => ?_) (fun h => ?_))
    | (apply gateE; first
      | refine Jl.nil (Ej.go ?_ (fun _ _ h => h))
      | (refine Jl.nil (Ej.back (fun _ _ h => h) (by repeat (first | exact .refl | apply DropTo.tail)) ?_); repeat (first | exact trivial | refine ⟨rfl, ?_⟩)))
    | (apply gateC; first
      | refine Cj.ret rfl (Ej.out2 (P := Tryd.prog) (fn := Tryd.f7) (R := Rr) (fun _ _ h => h) rfl rfl rfl (fun w' hW => ?_))
      | refine Cj.condF rfl rfl (Cj.skip rfl (Ej.go ?_ (fun _ _ h => h)))
      | (refine Cj.condF rfl rfl (Cj.skip rfl (Ej.back (fun _ _ h => h) (by repeat (first | exact .refl | apply DropTo.tail)) ?_)); repeat (first | exact trivial | refine ⟨rfl, ?_⟩))
      | refine Cj.condF rfl rfl ?_
      | refine Cj.condT rfl rfl ?_
      | refine Cj.exit rfl (Ej.go ?_ (fun _ _ h => h))
      | refine Cj.cond rfl rfl (fun h => ?_) (fun h => ?_)
      | refine Cj.skip rfl (Ej.go ?_ (fun _ _ h => h))
      | (refine Cj.skip rfl (Ej.back (fun _ _ h => h) (by repeat (first | exact .refl | apply DropTo.tail)) ?_); repeat (first | exact trivial | refine ⟨rfl, ?_⟩))
      | refine Cj.seq rfl ?_
      | refine Cj.region rfl ?_))
  exact ⟨by unfold carpT baseT; rw [if_pos hp], hW.below⟩
set_option maxHeartbeats 4000000 in
theorem iYesN (A0 : Option Addr) (c0 : Nat) (xs : List S39) (day looms mon at_ : Int) (kg : Nat) (hg : impl_IsShop.f kg day looms xs mon = some true) (hl8 : xs.length ≤ 8) (hin : impl_in.f at_ 0 ((xs.length : Int) - 1) = some true) (hat : 0 ≤ at_ ∧ at_ < (xs.length : Int)) (x : S39) (hx : xs.getD at_.toNat z39 = x) (h0 : 0 ≤ x.f0 ∧ x.f0 ≤ 500) (h1 : 0 ≤ x.f1 ∧ x.f1 ≤ 500) (h2 : 0 ≤ x.f2 ∧ x.f2 ≤ 4) (h3 : 0 ≤ x.f3 ∧ x.f3 ≤ 4) (hp : ¬ x.f3 > 0) (w : World) (htab : Lib.TabIs Tryd.prog w tabName .u64 Lib.pow10Tab) (hr0 : Kd.C k39 w A0 xs.length xs) (hc0 : xs.length ≤ c0) : Calls Tryd.prog 7 #[.agg #[.int .i64 day, .int .i64 looms, .slice A0 xs.length c0, .int .i64 mon], .int .i64 at_] w fun e w' => e = .returned (.tuple #[.string (carpT x), .bool true]) ∧ Below w.heap.size w w' := by
  let Rr : Ending → World → Prop := fun e w' => e = .returned (.tuple #[.string (carpT x), .bool true]) ∧ Below w.heap.size w w'
  obtain ⟨ad0, he0, _⟩ := hr0.2.2 (by omega)
  subst he0
  have hus : ([.int .i64 (xs.getD at_.toNat z39).f0, .int .i64 (xs.getD at_.toNat z39).f1, .int .i64 (xs.getD at_.toNat z39).f2, .int .i64 (xs.getD at_.toNat z39).f3, .int .i64 (xs.getD at_.toNat z39).f4] : List Value) = [.int .i64 x.f0, .int .i64 x.f1, .int .i64 x.f2, .int .i64 x.f3, .int .i64 x.f4] := by rw [hx]
  have s0 := dec_size x.f0 (by omega) (by omega)
  have s1 := dec_size x.f1 (by omega) (by omega)
  have s3 := dec_size x.f3 (by omega) (by omega)
  have s2 := nmT_size x.f2
  have hnm := nm_at x.f2 h2
  refine enterW (args := [.agg #[.int .i64 day, .int .i64 looms, .slice (some ad0) xs.length c0, .int .i64 mon], .int .i64 at_]) [(fun w => Kd.C k39 w (some ad0) xs.length xs), (fun W => Lib.TabIs Tryd.prog W tabName .u64 Lib.pow10Tab)] (fun p hp W hb => by
    rcases List.mem_cons.1 hp with rfl | hp
    · exact Kd.C_below hr0 hb
    · rw [List.mem_singleton.1 hp]; exact tab_below htab hb) Tryd.func7 rfl rfl ?_
  show Cj Tryd.prog _ _ _ (bodyPost Tryd.prog Tryd.f7 Rr) _ _ _
  repeat (first
    | (apply gateO; first
      | refine Jl.yd (Y.mv rfl rfl) rfl rfl rfl ?_
      | refine Jl.yd (Y.asg rfl rfl) rfl rfl rfl ?_
      | refine Jl.yd (Y.ext rfl rfl rfl) rfl rfl rfl ?_
      | refine Jl.yd (Y.pickT rfl rfl rfl) rfl rfl rfl ?_
      | refine Jl.yd (Y.pickF rfl rfl rfl) rfl rfl rfl ?_
      | refine Jl.off rfl rfl rfl ?_
      | refine Jl.yd (Y.cmpF rfl rfl rfl rfl (by omega)) rfl rfl rfl ?_
      | refine Jl.yd (Y.cmpT rfl rfl rfl rfl (by omega)) rfl rfl rfl ?_
      | refine Jl.yd (Y.neqB rfl rfl rfl Tryd.underlying4) rfl rfl rfl ?_
      | refine Jl.yd (Y.cmp rfl rfl rfl rfl) rfl rfl rfl ?_
      | refine Jl.yd (Y.not rfl rfl) rfl rfl rfl ?_
      | refine Jl.yd (Y.arithN rfl rfl rfl rfl (by omega)) rfl rfl rfl ?_
      | refine Jl.yd (Y.arith64 rfl rfl rfl rfl) rfl rfl rfl ?_
      | refine Jl.yd (Y.loadA rfl rfl agg30 (by repeat (first | exact .head _ | refine .tail _ ?_)) (by rfl)) rfl rfl rfl ?_
      | refine Jl.yd (Y.loadA rfl rfl agg39 (by repeat (first | exact .head _ | refine .tail _ ?_)) (by rfl)) rfl rfl rfl ?_
      | refine Jl.yd (Y.loadA rfl rfl agg41 (by repeat (first | exact .head _ | refine .tail _ ?_)) (by rfl)) rfl rfl rfl ?_
      | refine Jl.yd (Y.load1 rfl rfl sc3 (by repeat (first | exact .head _ | refine .tail _ ?_)) (by rfl)) rfl rfl rfl ?_
      | refine Jl.yd (Y.load1 rfl rfl sc28 (by repeat (first | exact .head _ | refine .tail _ ?_)) (by rfl)) rfl rfl rfl ?_
      | refine Jl.yd (Y.fld0 rfl rfl fld30_2) rfl rfl rfl ?_
      | refine Jl.yd (Y.fld0 rfl rfl fld39_3) rfl rfl rfl ?_
      | refine Jl.alloc rfl rfl rfl rfl zero39 (fun g => ?_)
      | refine Jl.alloc rfl rfl rfl rfl zero41 (fun g => ?_)
      | refine Jl.storeA rfl rfl rfl rfl rfl sz39 (by repeat (first | exact .z | apply SetAt.s)) (by rfl) (by rfl) ?_
      | refine Jl.storeA rfl rfl rfl rfl rfl sz41 (by repeat (first | exact .z | apply SetAt.s)) (by rfl) (by rfl) ?_
      | refine Jl.yd (Y.lenS Tryd.underlying28 rfl rfl rfl) rfl rfl rfl ?_
      | refine Jl.box (zs := [.int .i64 day, .int .i64 looms, .slice (some ad0) xs.length c0, .int .i64 mon]) rfl rfl rfl rfl rfl (by rfl) (fun gs => ?_)
      | refine Jl.call1 (v := .bool true) rfl rfl rfl rfl en14 rfl (fun w hW => by with_reducible exact impl_IsShop.calls kg day looms _ _ xs mon true w (hW.fact (by repeat (first | exact memH | refine memT ?_))) hc0 hg) ?_
      | refine Jl.call1 (v := .bool true) rfl rfl rfl rfl en15 rfl (fun w hW => (impl_in.calls at_ 0 ((xs.length : Int) - 1) true w hin).mono (fun _ _ h => ⟨h.1, bel_ h.2⟩)) ?_
      | refine Jl.yd (Y.idx rfl rfl rfl el28 (by omega) (by omega)) rfl rfl rfl ?_
      | refine Jl.yd (Y.loadK z39 [.int .i64 x.f0, .int .i64 x.f1, .int .i64 x.f2, .int .i64 x.f3, .int .i64 x.f4] rfl rfl agg39 (by repeat (first | exact .head _ | refine .tail _ ?_)) at_ (by omega) (by omega) (by rfl) (fun w cs h => (k39_open h).trans hus) (by rfl)) rfl rfl rfl ?_
      | refine Jl.yd (Y.const (v := .agg #[.string ⟨#[119, 97, 105, 116, 115]⟩, .string ⟨#[119, 111, 118, 101, 110]⟩, .string ⟨#[111, 102, 102]⟩, .string ⟨#[119, 97, 115, 104, 101, 100]⟩, .string ⟨#[115, 111, 108, 100]⟩]) (by intro a w; kernel_rfl)) rfl rfl rfl ?_
      | refine Jl.splitG rfl rfl (fun h => ?_) (fun h => ?_))
    | (apply gateE; first
      | refine Jl.nil (Ej.go ?_ (fun _ _ h => h))
      | (refine Jl.nil (Ej.back (fun _ _ h => h) (by repeat (first | exact .refl | apply DropTo.tail)) ?_); repeat (first | exact trivial | refine ⟨rfl, ?_⟩)))
    | (apply gateC; first
      | refine Cj.condF rfl rfl (Cj.skip rfl (Ej.go ?_ (fun _ _ h => h)))
      | (refine Cj.condF rfl rfl (Cj.skip rfl (Ej.back (fun _ _ h => h) (by repeat (first | exact .refl | apply DropTo.tail)) ?_)); repeat (first | exact trivial | refine ⟨rfl, ?_⟩))
      | refine Cj.condF rfl rfl ?_
      | refine Cj.condT rfl rfl ?_
      | refine Cj.exit rfl (Ej.go ?_ (fun _ _ h => h))
      | refine Cj.cond rfl rfl (fun h => ?_) (fun h => ?_)
      | refine Cj.skip rfl (Ej.go ?_ (fun _ _ h => h))
      | (refine Cj.skip rfl (Ej.back (fun _ _ h => h) (by repeat (first | exact .refl | apply DropTo.tail)) ?_); repeat (first | exact trivial | refine ⟨rfl, ?_⟩))
      | refine Cj.seq rfl ?_
      | refine Cj.region rfl ?_))
  refine Cj.regionJ rfl [] mixed ?_
  refine Jw.take 0 rfl (by decide +kernel) (by intro c a d v w h; cases d <;> exact h) (fun w => Y.fld0 rfl rfl fld39_2) rfl rfl rfl ?_
  refine Jw.take 5 rfl (by decide +kernel) (by intro c a d v w h; cases d <;> exact h) (fun w => Y.fld0 rfl rfl fld39_1) rfl rfl rfl ?_
  refine Jw.take 10 rfl (by decide +kernel) (by intro c a d v w h; cases d <;> exact h) (fun w => Y.fld0 rfl rfl fld39_0) rfl rfl rfl ?_
  refine Jw.takeR 1 rfl (by decide +kernel) (by intro c a d v w h; cases d <;> exact h) (Y.load1 rfl rfl sc3 (by repeat (first | exact .head _ | refine .tail _ ?_)) (by rfl)) rfl rfl rfl ?_
  refine Jw.takeR 6 rfl (by decide +kernel) (by intro c a d v w h; cases d <;> exact h) (Y.load1 rfl rfl sc3 (by repeat (first | exact .head _ | refine .tail _ ?_)) (by rfl)) rfl rfl rfl ?_
  refine Jw.takeR 11 rfl (by decide +kernel) (by intro c a d v w h; cases d <;> exact h) (Y.load1 rfl rfl sc3 (by repeat (first | exact .head _ | refine .tail _ ?_)) (by rfl)) rfl rfl rfl ?_
  refine Jw.take 2 rfl (by decide +kernel) (by intro c a d v w h; cases d <;> exact h) (fun w => Y.idxA rfl rfl rfl arr41 (by omega) (by omega)) rfl rfl rfl ?_
  refine Jw.takeR 3 rfl (by decide +kernel) (by intro c a d v w h; cases d <;> exact h) (Y.load1 rfl rfl sc9 (by repeat (first | exact .head _ | refine .tail _ ?_)) hnm) rfl rfl rfl ?_
  refine Jw.take 4 rfl (by decide +kernel) (by intro c a d v w h; cases d <;> exact h) (fun w => Y.cat rfl rfl rfl (by (try simp only [ByteArray.size_append', ByteArray.size_mk', List.size_toArray, List.length_cons, List.length_nil]); omega)) rfl rfl rfl ?_
  refine Jw.step (mkD [] []) 7 rfl (by decide +kernel) rfl rfl ?_
  refine Jl.call1 (v := .string (dec x.f1)) rfl rfl rfl rfl en16 rfl (fun w hW => dec_ x.f1 (by omega) (by omega) w (hW.at 1 rfl)) ?_
  refine Jl.jw ?_
  refine Jw.take 8 rfl (by decide +kernel) (by intro c a d v w h; cases d <;> exact h) (fun w => Y.cat rfl rfl rfl (by (try simp only [ByteArray.size_append', ByteArray.size_mk', List.size_toArray, List.length_cons, List.length_nil]); omega)) rfl rfl rfl ?_
  refine Jw.take 9 rfl (by decide +kernel) (by intro c a d v w h; cases d <;> exact h) (fun w => Y.cat rfl rfl rfl (by (try simp only [ByteArray.size_append', ByteArray.size_mk', List.size_toArray, List.length_cons, List.length_nil]); omega)) rfl rfl rfl ?_
  refine Jw.step (mkD [] []) 12 rfl (by decide +kernel) rfl rfl ?_
  refine Jl.call1 (v := .string (dec x.f0)) rfl rfl rfl rfl en16 rfl (fun w hW => dec_ x.f0 (by omega) (by omega) w (hW.at 1 rfl)) ?_
  refine Jl.jw ?_
  refine Jw.take 13 rfl (by decide +kernel) (by intro c a d v w h; cases d <;> exact h) (fun w => Y.cat rfl rfl rfl (by (try simp only [ByteArray.size_append', ByteArray.size_mk', List.size_toArray, List.length_cons, List.length_nil]); omega)) rfl rfl rfl ?_
  refine Jw.take 14 rfl (by decide +kernel) (by intro c a d v w h; cases d <;> exact h) (fun w => Y.asg rfl rfl) rfl rfl rfl ?_
  refine Jw.done (by decide +kernel) (Ej.go ?_ (fun _ _ h => h))
  repeat (first
    | (apply gateO; first
      | refine Jl.yd (Y.mv rfl rfl) rfl rfl rfl ?_
      | refine Jl.yd (Y.asg rfl rfl) rfl rfl rfl ?_
      | refine Jl.yd (Y.ext rfl rfl rfl) rfl rfl rfl ?_
      | refine Jl.yd (Y.pickT rfl rfl rfl) rfl rfl rfl ?_
      | refine Jl.yd (Y.pickF rfl rfl rfl) rfl rfl rfl ?_
      | refine Jl.off rfl rfl rfl ?_
      | refine Jl.yd (Y.cmpF rfl rfl rfl rfl (by omega)) rfl rfl rfl ?_
      | refine Jl.yd (Y.cmpT rfl rfl rfl rfl (by omega)) rfl rfl rfl ?_
      | refine Jl.yd (Y.neqB rfl rfl rfl Tryd.underlying4) rfl rfl rfl ?_
      | refine Jl.yd (Y.cmp rfl rfl rfl rfl) rfl rfl rfl ?_
      | refine Jl.yd (Y.not rfl rfl) rfl rfl rfl ?_
      | refine Jl.yd (Y.arithN rfl rfl rfl rfl (by omega)) rfl rfl rfl ?_
      | refine Jl.yd (Y.arith64 rfl rfl rfl rfl) rfl rfl rfl ?_
      | refine Jl.yd (Y.loadA rfl rfl agg30 (by repeat (first | exact .head _ | refine .tail _ ?_)) (by rfl)) rfl rfl rfl ?_
      | refine Jl.yd (Y.loadA rfl rfl agg39 (by repeat (first | exact .head _ | refine .tail _ ?_)) (by rfl)) rfl rfl rfl ?_
      | refine Jl.yd (Y.loadA rfl rfl agg41 (by repeat (first | exact .head _ | refine .tail _ ?_)) (by rfl)) rfl rfl rfl ?_
      | refine Jl.yd (Y.load1 rfl rfl sc3 (by repeat (first | exact .head _ | refine .tail _ ?_)) (by rfl)) rfl rfl rfl ?_
      | refine Jl.yd (Y.load1 rfl rfl sc28 (by repeat (first | exact .head _ | refine .tail _ ?_)) (by rfl)) rfl rfl rfl ?_
      | refine Jl.yd (Y.fld0 rfl rfl fld30_2) rfl rfl rfl ?_
      | refine Jl.yd (Y.fld0 rfl rfl fld39_3) rfl rfl rfl ?_
      | refine Jl.alloc rfl rfl rfl rfl zero39 (fun g => ?_)
      | refine Jl.alloc rfl rfl rfl rfl zero41 (fun g => ?_)
      | refine Jl.storeA rfl rfl rfl rfl rfl sz39 (by repeat (first | exact .z | apply SetAt.s)) (by rfl) (by rfl) ?_
      | refine Jl.storeA rfl rfl rfl rfl rfl sz41 (by repeat (first | exact .z | apply SetAt.s)) (by rfl) (by rfl) ?_
      | refine Jl.yd (Y.lenS Tryd.underlying28 rfl rfl rfl) rfl rfl rfl ?_
      | refine Jl.yd (Y.cat rfl rfl rfl (by (try simp only [ByteArray.size_append', ByteArray.size_mk', List.size_toArray, List.length_cons, List.length_nil]); omega)) rfl rfl rfl ?_
      | refine Jl.call1 (v := .string (dec x.f3)) rfl rfl rfl rfl en16 rfl (fun w hW => dec_ x.f3 (by omega) (by omega) w (hW.at 1 rfl)) ?_
      | refine Jl.splitG rfl rfl (fun h => ?_) (fun h => ?_))
    | (apply gateE; first
      | refine Jl.nil (Ej.go ?_ (fun _ _ h => h))
      | (refine Jl.nil (Ej.back (fun _ _ h => h) (by repeat (first | exact .refl | apply DropTo.tail)) ?_); repeat (first | exact trivial | refine ⟨rfl, ?_⟩)))
    | (apply gateC; first
      | refine Cj.ret rfl (Ej.out2 (P := Tryd.prog) (fn := Tryd.f7) (R := Rr) (fun _ _ h => h) rfl rfl rfl (fun w' hW => ?_))
      | refine Cj.condF rfl rfl (Cj.skip rfl (Ej.go ?_ (fun _ _ h => h)))
      | (refine Cj.condF rfl rfl (Cj.skip rfl (Ej.back (fun _ _ h => h) (by repeat (first | exact .refl | apply DropTo.tail)) ?_)); repeat (first | exact trivial | refine ⟨rfl, ?_⟩))
      | refine Cj.condF rfl rfl ?_
      | refine Cj.condT rfl rfl ?_
      | refine Cj.exit rfl (Ej.go ?_ (fun _ _ h => h))
      | refine Cj.cond rfl rfl (fun h => ?_) (fun h => ?_)
      | refine Cj.skip rfl (Ej.go ?_ (fun _ _ h => h))
      | (refine Cj.skip rfl (Ej.back (fun _ _ h => h) (by repeat (first | exact .refl | apply DropTo.tail)) ?_); repeat (first | exact trivial | refine ⟨rfl, ?_⟩))
      | refine Cj.seq rfl ?_
      | refine Cj.region rfl ?_))
  exact ⟨by unfold carpT baseT; rw [if_neg hp], hW.below⟩
set_option maxHeartbeats 2000000 in
theorem lawA (l0 : List S48) (day looms mon at_ : Int) (A0 : Option Addr) (c0 : Nat) (w : World) (htab : Lib.TabIs Tryd.prog w tabName .u64 Lib.pow10Tab) (hr0 : Kd.C k48 w A0 l0.length l0) (hc0 : l0.length ≤ c0) (r : Int) (hz : laws_szShop.f day looms l0 mon 1048576 = some r) (hr : r < 0) : Calls Tryd.prog 3 #[.agg #[.int .i64 day, .int .i64 looms, .slice A0 l0.length c0, .int .i64 mon], .int .i64 at_] w fun e w' => e = .returned (.bool true) ∧ Below w.heap.size w w' := by
  let Rr : Ending → World → Prop := fun e w' => e = .returned (.bool true) ∧ Below w.heap.size w w'
  refine enterW (args := [.agg #[.int .i64 day, .int .i64 looms, .slice A0 l0.length c0, .int .i64 mon], .int .i64 at_]) [(fun w => Kd.C k48 w A0 l0.length l0), (fun W => Lib.TabIs Tryd.prog W tabName .u64 Lib.pow10Tab)] (fun p hp W hb => by
    rcases List.mem_cons.1 hp with rfl | hp
    · exact Kd.C_below hr0 hb
    · rw [List.mem_singleton.1 hp]; exact tab_below htab hb) Tryd.func3 rfl rfl ?_
  show Cj Tryd.prog _ _ _ (bodyPost Tryd.prog Tryd.f3 Rr) _ _ _
  repeat (first
    | (apply gateO; first
      | refine Jl.yd (Y.mv rfl rfl) rfl rfl rfl ?_
      | refine Jl.yd (Y.asg rfl rfl) rfl rfl rfl ?_
      | refine Jl.yd (Y.ext rfl rfl rfl) rfl rfl rfl ?_
      | refine Jl.yd (Y.pickT rfl rfl rfl) rfl rfl rfl ?_
      | refine Jl.yd (Y.pickF rfl rfl rfl) rfl rfl rfl ?_
      | refine Jl.off rfl rfl rfl ?_
      | refine Jl.yd (Y.cmpF rfl rfl rfl rfl (by omega)) rfl rfl rfl ?_
      | refine Jl.yd (Y.cmpT rfl rfl rfl rfl (by omega)) rfl rfl rfl ?_
      | refine Jl.yd (Y.neqB rfl rfl rfl Tryd.underlying4) rfl rfl rfl ?_
      | refine Jl.yd (Y.cmp rfl rfl rfl rfl) rfl rfl rfl ?_
      | refine Jl.yd (Y.not rfl rfl) rfl rfl rfl ?_
      | refine Jl.yd (Y.arithN rfl rfl rfl rfl (by omega)) rfl rfl rfl ?_
      | refine Jl.yd (Y.arith64 rfl rfl rfl rfl) rfl rfl rfl ?_
      | refine Jl.yd (Y.loadA rfl rfl agg24 (by repeat (first | exact .head _ | refine .tail _ ?_)) (by rfl)) rfl rfl rfl ?_
      | refine Jl.yd (Y.loadA rfl rfl agg30 (by repeat (first | exact .head _ | refine .tail _ ?_)) (by rfl)) rfl rfl rfl ?_
      | refine Jl.alloc rfl rfl rfl rfl zero30 (fun g => ?_)
      | refine Jl.storeA rfl rfl rfl rfl rfl sz30 (by repeat (first | exact .z | apply SetAt.s)) (by rfl) (by rfl) ?_
      | refine Jl.box (zs := [.int .i64 day, .int .i64 looms, .slice A0 l0.length c0, .int .i64 mon]) rfl rfl rfl rfl rfl (by rfl) (fun gs => ?_)
      | refine Jl.call1 (v := .int .i64 r) rfl rfl rfl rfl en4 rfl (fun w hW => laws_szShop.calls day looms _ _ l0 mon 1048576 r w (hW.at 0 rfl) hc0 hz) ?_
      | refine Jl.splitG rfl rfl (fun h => ?_) (fun h => ?_))
    | (apply gateE; first
      | refine Jl.nil (Ej.go ?_ (fun _ _ h => h))
      | (refine Jl.nil (Ej.back (fun _ _ h => h) (by repeat (first | exact .refl | apply DropTo.tail)) ?_); repeat (first | exact trivial | refine ⟨rfl, ?_⟩)))
    | (apply gateC; first
      | refine Cj.ret rfl (Ej.out1 (P := Tryd.prog) (fn := Tryd.f3) (R := Rr) (fun _ _ h => h) rfl rfl (fun w' hW => ⟨rfl, hW.below⟩))
      | refine Cj.condF rfl rfl (Cj.skip rfl (Ej.go ?_ (fun _ _ h => h)))
      | (refine Cj.condF rfl rfl (Cj.skip rfl (Ej.back (fun _ _ h => h) (by repeat (first | exact .refl | apply DropTo.tail)) ?_)); repeat (first | exact trivial | refine ⟨rfl, ?_⟩))
      | refine Cj.condF rfl rfl ?_
      | refine Cj.condT rfl rfl ?_
      | refine Cj.exit rfl (Ej.go ?_ (fun _ _ h => h))
      | refine Cj.cond rfl rfl (fun h => ?_) (fun h => ?_)
      | refine Cj.skip rfl (Ej.go ?_ (fun _ _ h => h))
      | (refine Cj.skip rfl (Ej.back (fun _ _ h => h) (by repeat (first | exact .refl | apply DropTo.tail)) ?_); repeat (first | exact trivial | refine ⟨rfl, ?_⟩))
      | refine Cj.seq rfl ?_
      | refine Cj.region rfl ?_))
set_option maxHeartbeats 8000000 in
theorem lawB (l0 : List S48) (day looms mon at_ : Int) (A0 : Option Addr) (c0 : Nat) (w : World) (htab : Lib.TabIs Tryd.prog w tabName .u64 Lib.pow10Tab) (hr0 : Kd.C k48 w A0 l0.length l0) (hc0 : l0.length ≤ c0) (r : Int) (hz : laws_szShop.f day looms l0 mon 1048576 = some r) (hr : ¬ r < 0) (l : List S39) (kt : Nat) (ht : laws_toShop.f kt day looms l0 mon = some (day, looms, l, mon)) (q : ByteArray) (qb : Bool) (kq : Nat) (hq : laws_eqShop.f kq day looms l mon day looms l mon = some true)
    (hS : ∀ (A : Option Addr) (c : Nat) (w : World), Kd.C k39 w A l.length l → l.length ≤ c → Calls Tryd.prog 5 #[.agg #[.int .i64 day, .int .i64 looms, .slice A l.length c, .int .i64 mon], .int .i64 at_] w fun e w' => e = .returned (.tuple #[.string q, .bool qb]) ∧ Below w.heap.size w w')
    (hI : ∀ (A : Option Addr) (c : Nat) (w : World), Lib.TabIs Tryd.prog w tabName .u64 Lib.pow10Tab → Kd.C k39 w A l.length l → l.length ≤ c → Calls Tryd.prog 7 #[.agg #[.int .i64 day, .int .i64 looms, .slice A l.length c, .int .i64 mon], .int .i64 at_] w fun e w' => e = .returned (.tuple #[.string q, .bool qb]) ∧ Below w.heap.size w w') : Calls Tryd.prog 3 #[.agg #[.int .i64 day, .int .i64 looms, .slice A0 l0.length c0, .int .i64 mon], .int .i64 at_] w fun e w' => e = .returned (.bool true) ∧ Below w.heap.size w w' := by
  let Rr : Ending → World → Prop := fun e w' => e = .returned (.bool true) ∧ Below w.heap.size w w'
  refine enterW (args := [.agg #[.int .i64 day, .int .i64 looms, .slice A0 l0.length c0, .int .i64 mon], .int .i64 at_]) [(fun w => Kd.C k48 w A0 l0.length l0), (fun W => Lib.TabIs Tryd.prog W tabName .u64 Lib.pow10Tab)] (fun p hp W hb => by
    rcases List.mem_cons.1 hp with rfl | hp
    · exact Kd.C_below hr0 hb
    · rw [List.mem_singleton.1 hp]; exact tab_below htab hb) Tryd.func3 rfl rfl ?_
  show Cj Tryd.prog _ _ _ (bodyPost Tryd.prog Tryd.f3 Rr) _ _ _
  repeat (first
    | (apply gateO; first
      | refine Jl.yd (Y.mv rfl rfl) rfl rfl rfl ?_
      | refine Jl.yd (Y.asg rfl rfl) rfl rfl rfl ?_
      | refine Jl.yd (Y.ext rfl rfl rfl) rfl rfl rfl ?_
      | refine Jl.yd (Y.pickT rfl rfl rfl) rfl rfl rfl ?_
      | refine Jl.yd (Y.pickF rfl rfl rfl) rfl rfl rfl ?_
      | refine Jl.off rfl rfl rfl ?_
      | refine Jl.yd (Y.cmpF rfl rfl rfl rfl (by omega)) rfl rfl rfl ?_
      | refine Jl.yd (Y.cmpT rfl rfl rfl rfl (by omega)) rfl rfl rfl ?_
      | refine Jl.yd (Y.neqB rfl rfl rfl Tryd.underlying4) rfl rfl rfl ?_
      | refine Jl.yd (Y.cmp rfl rfl rfl rfl) rfl rfl rfl ?_
      | refine Jl.yd (Y.not rfl rfl) rfl rfl rfl ?_
      | refine Jl.yd (Y.arithN rfl rfl rfl rfl (by omega)) rfl rfl rfl ?_
      | refine Jl.yd (Y.arith64 rfl rfl rfl rfl) rfl rfl rfl ?_
      | refine Jl.yd (Y.loadA rfl rfl agg24 (by repeat (first | exact .head _ | refine .tail _ ?_)) (by rfl)) rfl rfl rfl ?_
      | refine Jl.yd (Y.loadA rfl rfl agg30 (by repeat (first | exact .head _ | refine .tail _ ?_)) (by rfl)) rfl rfl rfl ?_
      | refine Jl.alloc rfl rfl rfl rfl zero30 (fun g => ?_)
      | refine Jl.storeA rfl rfl rfl rfl rfl sz30 (by repeat (first | exact .z | apply SetAt.s)) (by rfl) (by rfl) ?_
      | refine Jl.box (zs := [.int .i64 day, .int .i64 looms, .slice A0 l0.length c0, .int .i64 mon]) rfl rfl rfl rfl rfl (by rfl) (fun gs => ?_)
      | refine Jl.call1 (v := .int .i64 r) rfl rfl rfl rfl en4 rfl (fun w hW => laws_szShop.calls day looms _ _ l0 mon 1048576 r w (hW.at 0 rfl) hc0 hz) ?_
      | refine Jl.yd (Y.neSF rfl rfl rfl) rfl rfl rfl ?_
      | refine Jl.callR 0 (fun v => .agg #[.int .i64 day, .int .i64 looms, v, .int .i64 mon]) rfl rfl rfl rfl en6 rfl (fun w hW => by with_reducible exact laws_toShop.calls kt day looms _ _ l0 mon day looms l mon w (hW.at 0 rfl) hc0 ht) (fun A c hl => ?_)
      | refine Jl.call1 (v := .tuple #[.string q, .bool qb]) rfl rfl rfl rfl en5 rfl (fun w hW => by with_reducible exact hS _ _ w (hW.rowC (by repeat (first | exact memH | refine memT ?_))) (hW.rowCap (by repeat (first | exact memH | refine memT ?_))).2) ?_
      | refine Jl.call1 (v := .tuple #[.string q, .bool qb]) rfl rfl rfl rfl en7 rfl (fun w hW => by with_reducible exact hI _ _ w (hW.at 1 rfl) (hW.rowC (by repeat (first | exact memH | refine memT ?_))) (hW.rowCap (by repeat (first | exact memH | refine memT ?_))).2) ?_
      | refine Jl.call1 (v := .bool true) rfl rfl rfl rfl en8 rfl (fun w hW => by with_reducible exact laws_eqShop.calls kq day looms _ _ l mon day looms _ _ l mon true w (hW.rowC (by repeat (first | exact memH | refine memT ?_))) (hW.rowCap (by repeat (first | exact memH | refine memT ?_))).2 (hW.rowC (by repeat (first | exact memH | refine memT ?_))) (hW.rowCap (by repeat (first | exact memH | refine memT ?_))).2 hq) ?_
      | refine Jl.splitG rfl rfl (fun h => ?_) (fun h => ?_))
    | (apply gateE; first
      | refine Jl.nil (Ej.go ?_ (fun _ _ h => h))
      | (refine Jl.nil (Ej.back (fun _ _ h => h) (by repeat (first | exact .refl | apply DropTo.tail)) ?_); repeat (first | exact trivial | refine ⟨rfl, ?_⟩)))
    | (apply gateC; first
      | refine Cj.ret rfl (Ej.out1 (P := Tryd.prog) (fn := Tryd.f3) (R := Rr) (fun _ _ h => h) rfl rfl (fun w' hW => ⟨rfl, hW.below⟩))
      | refine Cj.condF rfl rfl (Cj.skip rfl (Ej.go ?_ (fun _ _ h => h)))
      | (refine Cj.condF rfl rfl (Cj.skip rfl (Ej.back (fun _ _ h => h) (by repeat (first | exact .refl | apply DropTo.tail)) ?_)); repeat (first | exact trivial | refine ⟨rfl, ?_⟩))
      | refine Cj.condF rfl rfl ?_
      | refine Cj.condT rfl rfl ?_
      | refine Cj.exit rfl (Ej.go ?_ (fun _ _ h => h))
      | refine Cj.cond rfl rfl (fun h => ?_) (fun h => ?_)
      | refine Cj.skip rfl (Ej.go ?_ (fun _ _ h => h))
      | (refine Cj.skip rfl (Ej.back (fun _ _ h => h) (by repeat (first | exact .refl | apply DropTo.tail)) ?_); repeat (first | exact trivial | refine ⟨rfl, ?_⟩))
      | refine Cj.regionD rfl (mkD [0, 1, 4] []) [] [0, 1, 2, 3, 4] mixed (by decide +kernel) ?_
      | refine Cj.seq rfl ?_
      | refine Cj.region rfl ?_))
end Txt
end Go.Proofs.YtmhiaggpnkihcaaDoor.WK
