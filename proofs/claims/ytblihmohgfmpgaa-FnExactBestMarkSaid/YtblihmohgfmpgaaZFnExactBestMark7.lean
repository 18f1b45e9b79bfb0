/- For every schools and piece: the program's best mark is the reference's, and nothing handed in is written. -/
import Derived.KernelRfl
import Derived.Test.YtblihmohgfmpgaaRows
import Derived.WalkKit
import Derived.ProofKit
import Derived.OpenShut
import Derived.ShutString
import Derived.ChangeOld
import Derived.Below
import Derived.SizedLaws
import Derived.Carry
import Derived.ChangeVars
import Derived.Test.YtblihmohgfmpgaaZFnExactBestMark6
namespace Go.Proofs.Ytblihmohgfmpgaa.WK
open Go Go.RowKit Go.Proofs.Ytblihmohgfmpgaa.Q Go.Proofs.YtblihmohgfmpgaaW.PrintWords Go.Proofs.YtblihmohgfmpgaaW.Pl Go.Proofs.YtblihmohgfmpgaaW.SL
set_option linter.unusedSimpArgs false
set_option linter.unusedVariables false
set_option maxRecDepth 100000
namespace BM
theorem agg69 : AggT Try.prog 69 4 := ⟨by kernel_rfl⟩
theorem agg35 : AggT Try.prog 35 3 := ⟨by kernel_rfl⟩
theorem sz69 : SzT Try.prog 69 4 := ⟨by kernel_rfl⟩
theorem sc3 : ScT Try.prog 3 := ⟨by kernel_rfl⟩
theorem sc29 : ScT Try.prog 29 := ⟨by kernel_rfl⟩
theorem fld69_1 : FldT Try.prog 69 1 1 := ⟨by kernel_rfl⟩
theorem fld35_0 : FldT Try.prog 35 0 0 := ⟨by kernel_rfl⟩
theorem zero69 : ZeroT Try.prog 69 [.int .i64 0, .slice none 0 0, .int .i64 0, .int .i64 0] := ⟨by kernel_rfl⟩
theorem zero3 : ZeroT Try.prog 3 [.int .i64 0] := ⟨by kernel_rfl⟩
theorem el25 : ElT Try.prog 25 69 4 := ⟨by kernel_rfl⟩
theorem el29 : ElT Try.prog 29 3 1 := ⟨by kernel_rfl⟩
theorem en69 : Ent Try.prog 69 := ⟨enters_of Try.func69 (by kernel_rfl) rfl⟩
theorem en75 : Ent Try.prog 75 := ⟨enters_of Try.func75 (by kernel_rfl) rfl⟩
theorem en77 : Ent Try.prog 77 := ⟨enters_of Try.func77 (by kernel_rfl) rfl⟩
theorem en78 : Ent Try.prog 78 := ⟨enters_of Try.func78 (by kernel_rfl) rfl⟩
theorem ap29 : ApT Try.prog 29 3 1 8 := apT_of (z := .int .i64 0) Try.underlying29 (by kernel_rfl) rfl (by decide)
/-- One mark more. -/
def stp (n : Nat) (m : List Int) (hi lo : Nat → Int) (s : Int × Int) (i : Nat) : Int × Int := if m.getD ((i : Int)).toNat 0 ≠ -1 ∨ n = 0 then s else if hi i - lo i > s.2 then ((i : Int), hi i - lo i) else s
def bst (n : Nat) (m : List Int) (hi lo : Nat → Int) : Nat → Int × Int
  | 0 => (-1, -1)
  | i + 1 => stp n m hi lo (bst n m hi lo i) i
def col (ys : List S69) (i : Nat) : List Int := ys.map (fun x => x.f1.getD ((i : Int)).toNat 0)
set_option maxHeartbeats 2000000 in
theorem no (P0 : Nat → Prop) (A0 : Option Addr) (c0 : Nat) (xs : List S69) (m : List Int) (a b : Int) (A1 : Option Addr) (c1 : Nat) (w0 : World) (hr0 : Kd.C k69 w0 A0 xs.length xs) (hc0 : xs.length ≤ c0) (hr1 : Kd.C (Kd.int .i64) w0 A1 m.length m) (hc1 : m.length ≤ c1)
    (kb : Nat) (hb : impl_areCompared.f kb xs m a b = some false) : Calls Try.prog 39 #[.slice A0 xs.length c0, .agg #[.slice A1 m.length c1, .int .i64 a, .int .i64 b]] w0 fun e w' => e = .returned (.tuple #[.int .i64 0, .bool false]) ∧ Below w0.heap.size w0 w' := by
  let Rr : Ending → World → Prop := fun e w' => e = .returned (.tuple #[.int .i64 0, .bool false]) ∧ Below w0.heap.size w0 w'
  refine enterW (args := [.slice A0 xs.length c0, .agg #[.slice A1 m.length c1, .int .i64 a, .int .i64 b]]) [fun W => Kd.C k69 W A0 xs.length xs, fun W => Kd.C (Kd.int .i64) W A1 m.length m] (fun p hp W hb => by
    rcases List.mem_cons.1 hp with rfl | hp
    · exact Kd.C_below hr0 hb
    · rw [List.mem_singleton.1 hp]; exact Kd.C_below hr1 hb) Try.func39 rfl rfl ?_
  have comp_ : ∀ w its, WS (base w0) w its [fun W => Kd.C k69 W A0 xs.length xs, fun W => Kd.C (Kd.int .i64) W A1 m.length m] → Calls Try.prog 69 [.slice A0 xs.length c0, .agg #[.slice A1 m.length c1, .int .i64 a, .int .i64 b]].toArray w fun e w' => e = .returned (.bool false) ∧ Below w.heap.size w w' := fun w its hW =>
    impl_areCompared.calls kb A0 c0 xs A1 c1 m a b false w (hW.at 0 rfl) hc0 (hW.at 1 rfl) hc1 hb
  show Cj Try.prog _ _ _ (bodyPost Try.prog Try.f39 Rr) _ _ _
  repeat (first
    | (apply gateO; first
      | refine Jl.yd (Y.mv rfl rfl) rfl rfl rfl ?_
      | refine Jl.yd (Y.asg rfl rfl) rfl rfl rfl ?_
      | refine Jl.yd (Y.ext rfl rfl rfl) rfl rfl rfl ?_
      | refine Jl.yd (Y.pickT rfl rfl rfl) rfl rfl rfl ?_
      | refine Jl.yd (Y.pickF rfl rfl rfl) rfl rfl rfl ?_
      | refine Jl.off rfl rfl rfl ?_
      | refine Jl.yd (Y.cmpF rfl rfl rfl rfl (by omega)) rfl rfl rfl ?_
      | refine Jl.yd (Y.cmpT rfl rfl rfl rfl (by omega)) rfl rfl rfl ?_
      | refine Jl.yd (Y.neqB rfl rfl rfl Try.underlying4) rfl rfl rfl ?_
      | refine Jl.yd (Y.cmp rfl rfl rfl rfl) rfl rfl rfl ?_
      | refine Jl.yd (Y.not rfl rfl) rfl rfl rfl ?_
      | refine Jl.yd (Y.arithN rfl rfl rfl rfl (by omega)) rfl rfl rfl ?_
      | refine Jl.yd (Y.arith64 rfl rfl rfl rfl) rfl rfl rfl ?_
      | refine Jl.yd (Y.loadA rfl rfl agg35 (by repeat (first | exact .head _ | refine .tail _ ?_)) (by rfl)) rfl rfl rfl ?_
      | refine Jl.box (zs := [.slice A1 m.length c1, .int .i64 a, .int .i64 b]) rfl rfl rfl rfl rfl (by rfl) (fun gp => ?_)
      | refine Jl.call1 (v := .bool false) rfl rfl rfl rfl en69 rfl (fun w hW => comp_ w _ hW) ?_
      | refine Jl.splitG rfl rfl (fun h => ?_) (fun h => ?_))
    | (apply gateE; first
      | refine Jl.nil (Ej.go ?_ (fun _ _ h => h))
      | (refine Jl.nil (Ej.back (fun _ _ h => h) (by repeat (first | exact .refl | apply DropTo.tail)) ?_); repeat (first | exact trivial | refine ⟨rfl, ?_⟩)))
    | (apply gateC; first
      | refine Cj.ret rfl (Ej.out2 (P := Try.prog) (fn := Try.f39) (R := Rr) (fun _ _ h => h) rfl rfl rfl (fun w' hW => ?_))
      | refine Cj.condF rfl rfl (Cj.skip rfl (Ej.go ?_ (fun _ _ h => h)))
      | (refine Cj.condF rfl rfl (Cj.skip rfl (Ej.back (fun _ _ h => h) (by repeat (first | exact .refl | apply DropTo.tail)) ?_)); repeat (first | exact trivial | refine ⟨rfl, ?_⟩))
      | refine Cj.condF rfl rfl ?_
      | refine Cj.condT rfl rfl ?_
      | refine Cj.exit rfl (Ej.go ?_ (fun _ _ h => h))
      | refine Cj.cond rfl rfl (fun h => ?_) (fun h => ?_)
      | refine Cj.skip rfl (Ej.go ?_ (fun _ _ h => h))
      | (refine Cj.skip rfl (Ej.back (fun _ _ h => h) (by repeat (first | exact .refl | apply DropTo.tail)) ?_); repeat (first | exact trivial | refine ⟨rfl, ?_⟩))
      | refine Cj.seq rfl ?_
      | refine Cj.region rfl ?_))
  exact ⟨rfl, hW.below⟩
set_option maxHeartbeats 8000000 in
/-- impl.BestMark at what is valid. -/
theorem yes (P0 : Nat → Prop) (A0 : Option Addr) (c0 : Nat) (xs : List S69) (m : List Int) (a b : Int) (A1 : Option Addr) (c1 : Nat) (pos : S69 → Bool) (hi lo : Nat → Int) (w0 : World) (hs0 : Kd.V k69 69 w0 w0.heap.size (fun k => P0 k) (.slice A0 xs.length c0) xs) (hr1 : Kd.C (Kd.int .i64) w0 A1 m.length m) (hc1 : m.length ≤ c1) (hnn : xs.length ≤ 1048576)
    (kb : Nat) (hb : impl_areCompared.f kb xs m a b = some true) (hpos : ∀ x, x ∈ xs → ∃ k, impl_isPossible.f k x.f0 x.f1 x.f2 x.f3 m a b = some (pos x)) (hm8 : m.length = 8) (hx8 : ∀ x, x ∈ xs → x.f1.length = 8)
    (hmx : ∀ i, i < 8 → (xs.filter pos).length ≠ 0 → ∃ k, slices_Max_int_int.f k (col (xs.filter pos) i) = some (hi i)) (hmn : ∀ i, i < 8 → (xs.filter pos).length ≠ 0 → ∃ k, slices_Min_int_int.f k (col (xs.filter pos) i) = some (lo i))
    (hbd : ∀ i, -1000 ≤ hi i ∧ hi i ≤ 1000 ∧ -1000 ≤ lo i ∧ lo i ≤ 1000) :
    Calls Try.prog 39 #[.slice A0 xs.length c0, .agg #[.slice A1 m.length c1, .int .i64 a, .int .i64 b]] w0 fun e w' => e = .returned (.tuple #[.int .i64 (if (0 : Int) > (bst (xs.filter pos).length m hi lo 8).1 then 0 else (bst (xs.filter pos).length m hi lo 8).1), .bool (decide ((bst (xs.filter pos).length m hi lo 8).1 ≥ 0))]) ∧ Below w0.heap.size w0 w' := by
  obtain ⟨ys, hys⟩ : ∃ ys, ys = xs.filter pos := ⟨_, rfl⟩
  have hyl : ys.length ≤ xs.length := by rw [hys]; exact List.length_filter_le _ _
  rw [← hys] at hmx hmn
  rw [← hys]
  obtain ⟨ad1, rfl⟩ : ∃ ad1, A1 = some ad1 := by
    obtain ⟨ad, he, _⟩ := hr1.2.2 (by omega)
    exact ⟨ad, he⟩
  let Rr : Ending → World → Prop := fun e w' => e = .returned (.tuple #[.int .i64 (if (0 : Int) > (bst ys.length m hi lo 8).1 then 0 else (bst ys.length m hi lo 8).1), .bool (decide ((bst ys.length m hi lo 8).1 ≥ 0))]) ∧ Below w0.heap.size w0 w'
  let P1 : Nat → Prop := fun k => P0 k ∧ k < w0.heap.size
  have hv : Kd.V k69 69 w0 0 P1 (.slice A0 xs.length c0) xs := Kd.V_bound hs0
  refine enterW (args := [.slice A0 xs.length c0, .agg #[.slice (some ad1) m.length c1, .int .i64 a, .int .i64 b]]) [fun W => Kd.V k69 69 W 0 P1 (.slice A0 xs.length c0) xs, fun W => Kd.C (Kd.int .i64) W (some ad1) m.length m] (fun p hp W hb => by
    rcases List.mem_cons.1 hp with rfl | hp
    · exact Kd.V_below hv hb
    · rw [List.mem_singleton.1 hp]; exact Kd.C_below hr1 hb) Try.func39 rfl rfl ?_
  have comp_ : ∀ w its, WS (base w0) w its [fun W => Kd.V k69 69 W 0 P1 (.slice A0 xs.length c0) xs, fun W => Kd.C (Kd.int .i64) W (some ad1) m.length m] → Calls Try.prog 69 [.slice A0 xs.length c0, .agg #[.slice (some ad1) m.length c1, .int .i64 a, .int .i64 b]].toArray w fun e w' => e = .returned (.bool true) ∧ Below w.heap.size w w' := fun w its hW =>
    impl_areCompared.calls kb A0 c0 xs (some ad1) c1 m a b true w (Kd.V_reads' (hW.at 0 rfl)).2.2 (Kd.V_reads' (hW.at 0 rfl)).2.1 (hW.at 1 rfl) hc1 hb
  have poss_ : ∀ w its, WS (base w0) w its [fun W => Kd.V k69 69 W 0 P1 (.slice A0 xs.length c0) xs, fun W => Kd.C (Kd.int .i64) W (some ad1) m.length m] → Calls Try.prog 75 [.slice A0 xs.length c0, .agg #[.slice (some ad1) m.length c1, .int .i64 a, .int .i64 b]].toArray w fun e' w' => ∃ v, e' = .returned v ∧ Kd.N k69 69 w' w.heap.size (fun k => P1 k ∨ w.heap.size ≤ k) v ys ∧ Below w.heap.size w w' := fun w its hW => by
    rw [hys]
    exact Poss.calls P1 A0 c0 xs m a b (some ad1) c1 pos w (hW.at 0 rfl) (hW.at 1 rfl) hc1 hnn hpos
  show Cj Try.prog _ _ _ (bodyPost Try.prog Try.f39 Rr) _ _ _
  repeat (first
    | (apply gateO; first
      | refine Jl.yd (Y.mv rfl rfl) rfl rfl rfl ?_
      | refine Jl.yd (Y.asg rfl rfl) rfl rfl rfl ?_
      | refine Jl.yd (Y.ext rfl rfl rfl) rfl rfl rfl ?_
      | refine Jl.yd (Y.pickT rfl rfl rfl) rfl rfl rfl ?_
      | refine Jl.yd (Y.pickF rfl rfl rfl) rfl rfl rfl ?_
      | refine Jl.off rfl rfl rfl ?_
      | refine Jl.yd (Y.cmpF rfl rfl rfl rfl (by omega)) rfl rfl rfl ?_
      | refine Jl.yd (Y.cmpT rfl rfl rfl rfl (by omega)) rfl rfl rfl ?_
      | refine Jl.yd (Y.neqB rfl rfl rfl Try.underlying4) rfl rfl rfl ?_
      | refine Jl.yd (Y.cmp rfl rfl rfl rfl) rfl rfl rfl ?_
      | refine Jl.yd (Y.not rfl rfl) rfl rfl rfl ?_
      | refine Jl.yd (Y.arithN rfl rfl rfl rfl (by omega)) rfl rfl rfl ?_
      | refine Jl.yd (Y.arith64 rfl rfl rfl rfl) rfl rfl rfl ?_
      | refine Jl.yd (Y.loadA rfl rfl agg35 (by repeat (first | exact .head _ | refine .tail _ ?_)) (by rfl)) rfl rfl rfl ?_
      | refine Jl.yd (Y.load1 rfl rfl sc29 (by repeat (first | exact .head _ | refine .tail _ ?_)) (by rfl)) rfl rfl rfl ?_
      | refine Jl.yd (Y.fld0 rfl rfl fld35_0) rfl rfl rfl ?_
      | refine Jl.yd (Y.lenS Try.underlying25 rfl rfl rfl) rfl rfl rfl ?_
      | refine Jl.yd (Y.lenS Try.underlying29 rfl rfl rfl) rfl rfl rfl ?_
      | refine Jl.box (zs := [.slice (some ad1) m.length c1, .int .i64 a, .int .i64 b]) rfl rfl rfl rfl rfl (by rfl) (fun gp => ?_)
      | refine Jl.call1 (v := .bool true) rfl rfl rfl rfl en69 rfl (fun w hW => comp_ w _ hW) ?_
      | refine Jl.callN (w0 := w0) (P0 := P1) (fun k hk => hk.2) (dk := k69) (e := 69) (xs := ys) rfl rfl rfl rfl en75 rfl (fun w hW => poss_ w _ hW) (fun A c rows ok hc hl hform hok => ?_)
      | refine Jl.splitG rfl rfl (fun h => ?_) (fun h => ?_))
    | (apply gateE; first
      | refine Jl.nil (Ej.go ?_ (fun _ _ h => h))
      | (refine Jl.nil (Ej.back (fun _ _ h => h) (by repeat (first | exact .refl | apply DropTo.tail)) ?_); repeat (first | exact trivial | refine ⟨rfl, ?_⟩)))
    | (apply gateC; first
      | refine Cj.block rfl ?_
      | refine Cj.condF rfl rfl (Cj.skip rfl (Ej.go ?_ (fun _ _ h => h)))
      | (refine Cj.condF rfl rfl (Cj.skip rfl (Ej.back (fun _ _ h => h) (by repeat (first | exact .refl | apply DropTo.tail)) ?_)); repeat (first | exact trivial | refine ⟨rfl, ?_⟩))
      | refine Cj.condF rfl rfl ?_
      | refine Cj.condT rfl rfl ?_
      | refine Cj.exit rfl (Ej.go ?_ (fun _ _ h => h))
      | refine Cj.cond rfl rfl (fun h => ?_) (fun h => ?_)
      | refine Cj.skip rfl (Ej.go ?_ (fun _ _ h => h))
      | (refine Cj.skip rfl (Ej.back (fun _ _ h => h) (by repeat (first | exact .refl | apply DropTo.tail)) ?_); repeat (first | exact trivial | refine ⟨rfl, ?_⟩))
      | refine Cj.seq rfl ?_
      | refine Cj.region rfl ?_))
  refine Cj.loopP (ι := Nat × Int × Int) (fun q => q.1 ≤ 8 ∧ bst ys.length m hi lo q.1 = (q.2.1, q.2.2)) (fun q => [(3, .pointer (some ⟨gp, 0, none⟩)), (6, .slice A ys.length c), (7, .int .i64 q.2.1), (8, .int .i64 q.2.2), (23, .slice (some ad1) m.length c1), (24, .int .i64 (m.length : Int)), (25, .int .i64 (q.1 : Int))])
    (fun q => [.row (Kd.raw k69.sz) 69 0 (.slice A ys.length c) rows, .box gp 35 [.slice (some ad1) m.length c1, .int .i64 a, .int .i64 b]]) (fun _ => [fun W => ∀ (j : Nat) (x : S69) (us : List Value), ys[j]? = some x → rows[j]? = some us → Kd.FK k69 W ok x us, fun W => Kd.V k69 69 W 0 P1 (.slice A0 xs.length c0) xs, fun W => Kd.C (Kd.int .i64) W (some ad1) m.length m]) (fun q => 8 - q.1) rfl (0, -1, -1) ⟨Nat.zero_le _, rfl⟩ ⟨rfl, rfl, rfl, rfl, rfl, rfl, rfl, trivial⟩ (by repeat (first | exact .nil | refine Pick.cons (by repeat (first | exact .z | apply OutAt.s)) ?_)) (fun p hp => hp) (fun q hi => ?_)
  obtain ⟨i, best, wd⟩ := q
  dsimp only at hi ⊢
  obtain ⟨hi8, hst⟩ := hi
  by_cases hlt : i < 8
  · by_cases ht : m.getD ((i : Int)).toNat 0 = -1
    · by_cases hn0 : ys.length = 0
      · repeat (first
    | (apply gateO; first
      | refine Jl.yd (Y.mv rfl rfl) rfl rfl rfl ?_
      | refine Jl.yd (Y.asg rfl rfl) rfl rfl rfl ?_
      | refine Jl.yd (Y.ext rfl rfl rfl) rfl rfl rfl ?_
      | refine Jl.yd (Y.pickT rfl rfl rfl) rfl rfl rfl ?_
      | refine Jl.yd (Y.pickF rfl rfl rfl) rfl rfl rfl ?_
      | refine Jl.off rfl rfl rfl ?_
      | refine Jl.yd (Y.cmpF rfl rfl rfl rfl (by omega)) rfl rfl rfl ?_
      | refine Jl.yd (Y.cmpT rfl rfl rfl rfl (by omega)) rfl rfl rfl ?_
      | refine Jl.yd (Y.neqB rfl rfl rfl Try.underlying4) rfl rfl rfl ?_
      | refine Jl.yd (Y.cmp rfl rfl rfl rfl) rfl rfl rfl ?_
      | refine Jl.yd (Y.not rfl rfl) rfl rfl rfl ?_
      | refine Jl.yd (Y.arithN rfl rfl rfl rfl (by omega)) rfl rfl rfl ?_
      | refine Jl.yd (Y.arith64 rfl rfl rfl rfl) rfl rfl rfl ?_
      | refine Jl.yd (Y.lenS Try.underlying25 rfl rfl rfl) rfl rfl rfl ?_
      | refine Jl.yd (Y.lenS Try.underlying29 rfl rfl rfl) rfl rfl rfl ?_
      | refine Jl.lit0 (Kd.int .i64) rfl rfl rfl rfl el29 (fun gr => ?_)
      | refine Jl.yd (Y.idx rfl rfl rfl el29 (by omega) (by omega)) rfl rfl rfl ?_
      | refine Jl.yd (Y.loadI rfl rfl sc3 (by repeat (first | exact .head _ | refine .tail _ ?_)) (i : Int) (by omega) (by omega) (by rfl)) rfl rfl rfl ?_
      | refine Jl.splitG rfl rfl (fun h => ?_) (fun h => ?_))
    | (apply gateE; first
      | refine Jl.nil (Ej.go ?_ (fun _ _ h => h))
      | (refine Jl.nil (Ej.back (fun _ _ h => h) (by repeat (first | exact .refl | apply DropTo.tail)) ?_); repeat (first | exact trivial | refine ⟨rfl, ?_⟩)))
    | (apply gateC; first
      | refine Cj.block rfl ?_
      | refine Cj.condF rfl rfl (Cj.skip rfl (Ej.go ?_ (fun _ _ h => h)))
      | (refine Cj.condF rfl rfl (Cj.skip rfl (Ej.back (fun _ _ h => h) (by repeat (first | exact .refl | apply DropTo.tail)) ?_)); repeat (first | exact trivial | refine ⟨rfl, ?_⟩))
      | refine Cj.condF rfl rfl ?_
      | refine Cj.condT rfl rfl ?_
      | refine Cj.exit rfl (Ej.go ?_ (fun _ _ h => h))
      | refine Cj.cond rfl rfl (fun h => ?_) (fun h => ?_)
      | refine Cj.skip rfl (Ej.go ?_ (fun _ _ h => h))
      | (refine Cj.skip rfl (Ej.back (fun _ _ h => h) (by repeat (first | exact .refl | apply DropTo.tail)) ?_); repeat (first | exact trivial | refine ⟨rfl, ?_⟩))
      | refine Cj.seq rfl ?_
      | refine Cj.region rfl ?_))
        refine Jl.nil (Ej.cutP (ι := Nat × Int × Int) _ _ _ _ (fun _ _ h => h) (i + 1, best, wd) ⟨⟨by omega, by rw [bst, hst]; exact by rw [stp, if_pos (.inr hn0)]⟩, by dsimp only; omega⟩ ⟨rfl, rfl, rfl, rfl, rfl, rfl, rfl, trivial⟩ (by repeat (first | exact .nil | refine Pick.cons (by repeat (first | exact .z | apply OutAt.s)) ?_)) (fun p hp => hp))
      · obtain ⟨kx, hx⟩ := hmx i hlt hn0
        obtain ⟨kn, hn⟩ := hmn i hlt hn0
        obtain ⟨b1, b2, b3, b4⟩ := hbd i
        repeat (first
    | (apply gateO; first
      | refine Jl.yd (Y.mv rfl rfl) rfl rfl rfl ?_
      | refine Jl.yd (Y.asg rfl rfl) rfl rfl rfl ?_
      | refine Jl.yd (Y.ext rfl rfl rfl) rfl rfl rfl ?_
      | refine Jl.yd (Y.pickT rfl rfl rfl) rfl rfl rfl ?_
      | refine Jl.yd (Y.pickF rfl rfl rfl) rfl rfl rfl ?_
      | refine Jl.off rfl rfl rfl ?_
      | refine Jl.yd (Y.cmpF rfl rfl rfl rfl (by omega)) rfl rfl rfl ?_
      | refine Jl.yd (Y.cmpT rfl rfl rfl rfl (by omega)) rfl rfl rfl ?_
      | refine Jl.yd (Y.neqB rfl rfl rfl Try.underlying4) rfl rfl rfl ?_
      | refine Jl.yd (Y.cmp rfl rfl rfl rfl) rfl rfl rfl ?_
      | refine Jl.yd (Y.not rfl rfl) rfl rfl rfl ?_
      | refine Jl.yd (Y.arithN rfl rfl rfl rfl (by omega)) rfl rfl rfl ?_
      | refine Jl.yd (Y.arith64 rfl rfl rfl rfl) rfl rfl rfl ?_
      | refine Jl.yd (Y.lenS Try.underlying25 rfl rfl rfl) rfl rfl rfl ?_
      | refine Jl.yd (Y.lenS Try.underlying29 rfl rfl rfl) rfl rfl rfl ?_
      | refine Jl.lit0 (Kd.int .i64) rfl rfl rfl rfl el29 (fun gr => ?_)
      | refine Jl.yd (Y.idx rfl rfl rfl el29 (by omega) (by omega)) rfl rfl rfl ?_
      | refine Jl.yd (Y.loadI rfl rfl sc3 (by repeat (first | exact .head _ | refine .tail _ ?_)) (i : Int) (by omega) (by omega) (by rfl)) rfl rfl rfl ?_
      | refine Jl.splitG rfl rfl (fun h => ?_) (fun h => ?_))
    | (apply gateE; first
      | refine Jl.nil (Ej.go ?_ (fun _ _ h => h))
      | (refine Jl.nil (Ej.back (fun _ _ h => h) (by repeat (first | exact .refl | apply DropTo.tail)) ?_); repeat (first | exact trivial | refine ⟨rfl, ?_⟩)))
    | (apply gateC; first
      | refine Cj.block rfl ?_
      | refine Cj.condF rfl rfl (Cj.skip rfl (Ej.go ?_ (fun _ _ h => h)))
      | (refine Cj.condF rfl rfl (Cj.skip rfl (Ej.back (fun _ _ h => h) (by repeat (first | exact .refl | apply DropTo.tail)) ?_)); repeat (first | exact trivial | refine ⟨rfl, ?_⟩))
      | refine Cj.condF rfl rfl ?_
      | refine Cj.condT rfl rfl ?_
      | refine Cj.exit rfl (Ej.go ?_ (fun _ _ h => h))
      | refine Cj.cond rfl rfl (fun h => ?_) (fun h => ?_)
      | refine Cj.skip rfl (Ej.go ?_ (fun _ _ h => h))
      | (refine Cj.skip rfl (Ej.back (fun _ _ h => h) (by repeat (first | exact .refl | apply DropTo.tail)) ?_); repeat (first | exact trivial | refine ⟨rfl, ?_⟩))
      | refine Cj.seq rfl ?_
      | refine Cj.region rfl ?_))
        refine Cj.loopP (ι := Nat × List Int × Option Addr × Nat) (fun q => q.1 ≤ ys.length ∧ q.2.1 = (ys.take q.1).map (fun x => x.f1.getD ((i : Int)).toNat 0)) (fun q => [(3, .pointer (some ⟨gp, 0, none⟩)), (6, .slice A ys.length c), (7, .int .i64 best), (8, .int .i64 wd), (9, .int .i64 (i : Int)), (11, .slice q.2.2.1 q.2.1.length q.2.2.2), (23, .slice (some ad1) m.length c1), (24, .int .i64 (m.length : Int)), (25, .int .i64 (i : Int)), (38, .slice A ys.length c), (39, .int .i64 (ys.length : Int)), (40, .int .i64 (q.1 : Int))])
          (fun q => [.row (Kd.int .i64) 3 0 (.slice q.2.2.1 q.2.1.length q.2.2.2) q.2.1, .row (Kd.raw k69.sz) 69 0 (.slice A ys.length c) rows, .box gp 35 [.slice (some ad1) m.length c1, .int .i64 a, .int .i64 b]]) (fun _ => [fun W => ∀ (j : Nat) (x : S69) (us : List Value), ys[j]? = some x → rows[j]? = some us → Kd.FK k69 W ok x us, fun W => Kd.V k69 69 W 0 P1 (.slice A0 xs.length c0) xs, fun W => Kd.C (Kd.int .i64) W (some ad1) m.length m]) (fun q => ys.length - q.1) rfl (0, [], some ⟨gr, 0, none⟩, 0) ⟨Nat.zero_le _, rfl⟩ ⟨rfl, rfl, rfl, rfl, rfl, rfl, rfl, rfl, rfl, rfl, rfl, rfl, trivial⟩ (by repeat (first | exact .nil | refine Pick.cons (by repeat (first | exact .z | apply OutAt.s)) ?_)) (fun p hp => hp) (fun q hj => ?_)
        obtain ⟨j, acc, Ar, cr⟩ := q
        dsimp only at hj ⊢
        obtain ⟨hj, hacc⟩ := hj
        have hal : acc.length = j := by rw [hacc, List.length_map, List.length_take]; omega
        by_cases hjl : j < ys.length
        · obtain ⟨g2, rfl⟩ := hform.resolve_left (by omega)
          obtain ⟨x, hx⟩ : ∃ x, ys[j]? = some x := ⟨_, List.getElem?_eq_getElem hjl⟩
          obtain ⟨u, hu⟩ : ∃ u, rows[j]? = some u := ⟨_, List.getElem?_eq_getElem (by omega)⟩
          have hxm : x ∈ xs ∧ pos x = true := by have := List.mem_of_getElem? hx; rw [hys] at this; exact List.mem_filter.1 this
          have hxl := hx8 x hxm.1
          have hac' : acc ++ [x.f1.getD ((i : Int)).toNat 0] = (ys.take (j + 1)).map (fun x => x.f1.getD ((i : Int)).toNat 0) := by rw [List.take_add_one, hx, List.map_append, hacc]; rfl
          refine Cj.ws (ι := Addr × Nat) (fun q => u = [.int .i64 x.f0, .slice (some q.1) x.f1.length q.2, .int .i64 x.f2, .int .i64 x.f3] ∧ x.f1.length ≤ q.2) (fun _ => [.row (Kd.int .i64) 3 0 (.slice Ar acc.length cr) acc, .row (Kd.raw k69.sz) 69 0 (.slice (some ⟨g2, 0, none⟩) ys.length c) rows, .box gp 35 [.slice (some ad1) m.length c1, .int .i64 a, .int .i64 b]]) (fun q => [fun W => Kd.C (Kd.int .i64) W (some q.1) x.f1.length x.f1, fun W => ∀ (j : Nat) (x : S69) (us : List Value), ys[j]? = some x → rows[j]? = some us → Kd.FK k69 W ok x us, fun W => Kd.V k69 69 W 0 P1 (.slice A0 xs.length c0) xs, fun W => Kd.C (Kd.int .i64) W (some ad1) m.length m]) (fun w hW => ?_) (fun q hq => ?_)
          · obtain ⟨A', c', he, hl', hC⟩ := k69_open (Kd.FK_now (hW.at 0 rfl j x u hx hu))
            obtain ⟨ad', rfl⟩ : ∃ ad', A' = some ad' := by
              obtain ⟨ad, he, _⟩ := hC.2.2 (by omega)
              exact ⟨ad, he⟩
            refine ⟨(ad', c'), ⟨he, hl'⟩, hW.imp (p := fun W => ∀ (j : Nat) (x : S69) (us : List Value), ys[j]? = some x → rows[j]? = some us → Kd.FK k69 W ok x us) (List.mem_cons_self) (fun W hp => ?_)⟩
            obtain ⟨A'', c'', he', _, hg⟩ := k69_open (Kd.FK_now (hp j x u hx hu))
            rw [he] at he'
            injection he' with _ he'
            injection he' with he' _
            injection he' with he'
            subst he'
            exact hg
          obtain ⟨ad', c'⟩ := q
          obtain ⟨hus, hl'⟩ := hq
          dsimp only at hus hl' ⊢
          have hgd : rows.getD ((j : Int)).toNat [] = [.int .i64 x.f0, .slice (some ad') x.f1.length c', .int .i64 x.f2, .int .i64 x.f3] := by
            rw [Int.toNat_natCast, List.getD_eq_getElem?_getD, hu, ← hus]; rfl
          repeat (first
    | (apply gateO; first
      | refine Jl.yd (Y.mv rfl rfl) rfl rfl rfl ?_
      | refine Jl.yd (Y.asg rfl rfl) rfl rfl rfl ?_
      | refine Jl.yd (Y.ext rfl rfl rfl) rfl rfl rfl ?_
      | refine Jl.yd (Y.pickT rfl rfl rfl) rfl rfl rfl ?_
      | refine Jl.yd (Y.pickF rfl rfl rfl) rfl rfl rfl ?_
      | refine Jl.off rfl rfl rfl ?_
      | refine Jl.yd (Y.cmpF rfl rfl rfl rfl (by omega)) rfl rfl rfl ?_
      | refine Jl.yd (Y.cmpT rfl rfl rfl rfl (by omega)) rfl rfl rfl ?_
      | refine Jl.yd (Y.neqB rfl rfl rfl Try.underlying4) rfl rfl rfl ?_
      | refine Jl.yd (Y.cmp rfl rfl rfl rfl) rfl rfl rfl ?_
      | refine Jl.yd (Y.not rfl rfl) rfl rfl rfl ?_
      | refine Jl.yd (Y.arithN rfl rfl rfl rfl (by omega)) rfl rfl rfl ?_
      | refine Jl.yd (Y.arith64 rfl rfl rfl rfl) rfl rfl rfl ?_
      | refine Jl.yd (Y.loadA rfl rfl agg69 (by repeat (first | exact .head _ | refine .tail _ ?_)) (by rfl)) rfl rfl rfl ?_
      | refine Jl.yd (Y.load1 rfl rfl sc29 (by repeat (first | exact .head _ | refine .tail _ ?_)) (by rfl)) rfl rfl rfl ?_
      | refine Jl.yd (Y.fld0 rfl rfl fld69_1) rfl rfl rfl ?_
      | refine Jl.alloc rfl rfl rfl rfl zero69 (fun g => ?_)
      | refine Jl.storeA rfl rfl rfl rfl rfl sz69 (by repeat (first | exact .z | apply SetAt.s)) (by rfl) (by rfl) ?_
      | refine Jl.yd (Y.lenS Try.underlying25 rfl rfl rfl) rfl rfl rfl ?_
      | refine Jl.yd (Y.lenS Try.underlying29 rfl rfl rfl) rfl rfl rfl ?_
      | refine Jl.yd (Y.idx0 rfl rfl rfl el25 (by omega) (by omega)) rfl rfl rfl ?_
      | refine Jl.yd (Y.idx rfl rfl rfl el29 (by omega) (by omega)) rfl rfl rfl ?_
      | refine Jl.yd (Y.loadI rfl rfl sc3 (by repeat (first | exact .head _ | refine .tail _ ?_)) (i : Int) (by omega) (by omega) (by rfl)) rfl rfl rfl ?_
      | refine Jl.yd (Y.loadRA [] rfl rfl agg69 (by repeat (first | exact .head _ | refine .tail _ ?_)) (j : Int) (by omega) (by omega) (by rfl) (by rfl) (fun w ok cs h => (raw_cells h).trans hgd)) rfl rfl rfl ?_
      | refine Jl.lit1 rfl rfl rfl rfl rfl el29 zero3 rfl (fun gx => ?_)
      | refine Jl.app (dk := Kd.int .i64) (xs := acc) (x.f1.getD ((i : Int)).toNat 0) (fun _ => False) rfl rfl rfl rfl rfl rfl ap29 (by repeat (first | exact .head _ | refine .tail _ ?_)) rfl (fun w => rfl) (fun u hu => by rw [List.mem_singleton.1 hu]; rfl) (by repeat (first | exact .z | apply OutAt.s)) (by omega) (by omega) (fun Ar' cr' hcr' => ?_)
      | refine Jl.splitG rfl rfl (fun h => ?_) (fun h => ?_))
    | (apply gateE; first
      | refine Jl.nil (Ej.go ?_ (fun _ _ h => h))
      | (refine Jl.nil (Ej.back (fun _ _ h => h) (by repeat (first | exact .refl | apply DropTo.tail)) ?_); repeat (first | exact trivial | refine ⟨rfl, ?_⟩)))
    | (apply gateC; first
      | refine Cj.block rfl ?_
      | refine Cj.condF rfl rfl (Cj.skip rfl (Ej.go ?_ (fun _ _ h => h)))
      | (refine Cj.condF rfl rfl (Cj.skip rfl (Ej.back (fun _ _ h => h) (by repeat (first | exact .refl | apply DropTo.tail)) ?_)); repeat (first | exact trivial | refine ⟨rfl, ?_⟩))
      | refine Cj.condF rfl rfl ?_
      | refine Cj.condT rfl rfl ?_
      | refine Cj.exit rfl (Ej.go ?_ (fun _ _ h => h))
      | refine Cj.cond rfl rfl (fun h => ?_) (fun h => ?_)
      | refine Cj.skip rfl (Ej.go ?_ (fun _ _ h => h))
      | (refine Cj.skip rfl (Ej.back (fun _ _ h => h) (by repeat (first | exact .refl | apply DropTo.tail)) ?_); repeat (first | exact trivial | refine ⟨rfl, ?_⟩))
      | refine Cj.seq rfl ?_
      | refine Cj.region rfl ?_))
          refine Jl.nil (Ej.ws (ι := Unit) (fun _ => True) (fun _ => _) (fun _ => [fun W => ∀ (j : Nat) (x : S69) (us : List Value), ys[j]? = some x → rows[j]? = some us → Kd.FK k69 W ok x us, fun W => Kd.V k69 69 W 0 P1 (.slice A0 xs.length c0) xs, fun W => Kd.C (Kd.int .i64) W (some ad1) m.length m]) (fun w hW => ⟨(), trivial, WS.sub hW (fun p hp => List.mem_cons_of_mem _ hp)⟩) (fun _ _ => ?_))
          refine Ej.cutP (ι := Nat × List Int × Option Addr × Nat) _ _ _ _ (fun _ _ h => h) (j + 1, acc ++ [x.f1.getD ((i : Int)).toNat 0], Ar', cr') ⟨⟨by omega, hac'⟩, by dsimp only; omega⟩ ⟨rfl, rfl, rfl, rfl, rfl, rfl, rfl, rfl, rfl, rfl, rfl, rfl, trivial⟩ (by repeat (first | exact .nil | refine Pick.cons (by repeat (first | exact .z | apply OutAt.s)) ?_)) (fun p hp => hp)
        · obtain rfl : j = ys.length := by omega
          rw [List.take_length] at hacc
          rw [show col ys i = acc from hacc.symm] at hx hn
          by_cases hgt : hi i - lo i > wd
          · repeat (first
    | (apply gateO; first
      | refine Jl.yd (Y.mv rfl rfl) rfl rfl rfl ?_
      | refine Jl.yd (Y.asg rfl rfl) rfl rfl rfl ?_
      | refine Jl.yd (Y.ext rfl rfl rfl) rfl rfl rfl ?_
      | refine Jl.yd (Y.pickT rfl rfl rfl) rfl rfl rfl ?_
      | refine Jl.yd (Y.pickF rfl rfl rfl) rfl rfl rfl ?_
      | refine Jl.off rfl rfl rfl ?_
      | refine Jl.yd (Y.cmpF rfl rfl rfl rfl (by omega)) rfl rfl rfl ?_
      | refine Jl.yd (Y.cmpT rfl rfl rfl rfl (by omega)) rfl rfl rfl ?_
      | refine Jl.yd (Y.neqB rfl rfl rfl Try.underlying4) rfl rfl rfl ?_
      | refine Jl.yd (Y.cmp rfl rfl rfl rfl) rfl rfl rfl ?_
      | refine Jl.yd (Y.not rfl rfl) rfl rfl rfl ?_
      | refine Jl.yd (Y.arithN rfl rfl rfl rfl (by omega)) rfl rfl rfl ?_
      | refine Jl.yd (Y.arith64 rfl rfl rfl rfl) rfl rfl rfl ?_
      | refine Jl.yd (Y.lenS Try.underlying25 rfl rfl rfl) rfl rfl rfl ?_
      | refine Jl.yd (Y.lenS Try.underlying29 rfl rfl rfl) rfl rfl rfl ?_
      | refine Jl.call1 (v := .int .i64 (hi i)) rfl rfl rfl rfl en77 rfl (fun w hW => by with_reducible exact slices_Max_int_int.calls kx _ _ acc (hi i) w (hW.rowC (by repeat (first | exact memH | refine memT ?_))) (hW.rowCap (by repeat (first | exact memH | refine memT ?_))).2 hx) ?_
      | refine Jl.call1 (v := .int .i64 (lo i)) rfl rfl rfl rfl en78 rfl (fun w hW => by with_reducible exact slices_Min_int_int.calls kn _ _ acc (lo i) w (hW.rowC (by repeat (first | exact memH | refine memT ?_))) (hW.rowCap (by repeat (first | exact memH | refine memT ?_))).2 hn) ?_
      | refine Jl.splitG rfl rfl (fun h => ?_) (fun h => ?_))
    | (apply gateE; first
      | refine Jl.nil (Ej.go ?_ (fun _ _ h => h))
      | (refine Jl.nil (Ej.back (fun _ _ h => h) (by repeat (first | exact .refl | apply DropTo.tail)) ?_); repeat (first | exact trivial | refine ⟨rfl, ?_⟩)))
    | (apply gateC; first
      | refine Cj.condF rfl rfl (Cj.skip rfl (Ej.go ?_ (fun _ _ h => h)))
      | (refine Cj.condF rfl rfl (Cj.skip rfl (Ej.back (fun _ _ h => h) (by repeat (first | exact .refl | apply DropTo.tail)) ?_)); repeat (first | exact trivial | refine ⟨rfl, ?_⟩))
      | refine Cj.condF rfl rfl ?_
      | refine Cj.condT rfl rfl ?_
      | refine Cj.exit rfl (Ej.go ?_ (fun _ _ h => h))
      | refine Cj.cond rfl rfl (fun h => ?_) (fun h => ?_)
      | refine Cj.skip rfl (Ej.go ?_ (fun _ _ h => h))
      | (refine Cj.skip rfl (Ej.back (fun _ _ h => h) (by repeat (first | exact .refl | apply DropTo.tail)) ?_); repeat (first | exact trivial | refine ⟨rfl, ?_⟩))
      | refine Cj.seq rfl ?_
      | refine Cj.region rfl ?_))
            refine Jl.nil (Ej.cutP (ι := Nat × Int × Int) _ _ _ _ (fun _ _ h => h) (i + 1, (i : Int), hi i - lo i) ⟨⟨by omega, by rw [bst, hst]; exact by rw [stp, if_neg (fun h => h.elim (fun h => h ht) hn0), if_pos hgt]⟩, by dsimp only; omega⟩ ⟨rfl, rfl, rfl, rfl, rfl, rfl, rfl, trivial⟩ (by repeat (first | exact .nil | refine Pick.cons (by repeat (first | exact .z | apply OutAt.s)) ?_)) (fun p hp => hp))
          · repeat (first
    | (apply gateO; first
      | refine Jl.yd (Y.mv rfl rfl) rfl rfl rfl ?_
      | refine Jl.yd (Y.asg rfl rfl) rfl rfl rfl ?_
      | refine Jl.yd (Y.ext rfl rfl rfl) rfl rfl rfl ?_
      | refine Jl.yd (Y.pickT rfl rfl rfl) rfl rfl rfl ?_
      | refine Jl.yd (Y.pickF rfl rfl rfl) rfl rfl rfl ?_
      | refine Jl.off rfl rfl rfl ?_
      | refine Jl.yd (Y.cmpF rfl rfl rfl rfl (by omega)) rfl rfl rfl ?_
      | refine Jl.yd (Y.cmpT rfl rfl rfl rfl (by omega)) rfl rfl rfl ?_
      | refine Jl.yd (Y.neqB rfl rfl rfl Try.underlying4) rfl rfl rfl ?_
      | refine Jl.yd (Y.cmp rfl rfl rfl rfl) rfl rfl rfl ?_
      | refine Jl.yd (Y.not rfl rfl) rfl rfl rfl ?_
      | refine Jl.yd (Y.arithN rfl rfl rfl rfl (by omega)) rfl rfl rfl ?_
      | refine Jl.yd (Y.arith64 rfl rfl rfl rfl) rfl rfl rfl ?_
      | refine Jl.yd (Y.lenS Try.underlying25 rfl rfl rfl) rfl rfl rfl ?_
      | refine Jl.yd (Y.lenS Try.underlying29 rfl rfl rfl) rfl rfl rfl ?_
      | refine Jl.call1 (v := .int .i64 (hi i)) rfl rfl rfl rfl en77 rfl (fun w hW => by with_reducible exact slices_Max_int_int.calls kx _ _ acc (hi i) w (hW.rowC (by repeat (first | exact memH | refine memT ?_))) (hW.rowCap (by repeat (first | exact memH | refine memT ?_))).2 hx) ?_
      | refine Jl.call1 (v := .int .i64 (lo i)) rfl rfl rfl rfl en78 rfl (fun w hW => by with_reducible exact slices_Min_int_int.calls kn _ _ acc (lo i) w (hW.rowC (by repeat (first | exact memH | refine memT ?_))) (hW.rowCap (by repeat (first | exact memH | refine memT ?_))).2 hn) ?_
      | refine Jl.splitG rfl rfl (fun h => ?_) (fun h => ?_))
    | (apply gateE; first
      | refine Jl.nil (Ej.go ?_ (fun _ _ h => h))
      | (refine Jl.nil (Ej.back (fun _ _ h => h) (by repeat (first | exact .refl | apply DropTo.tail)) ?_); repeat (first | exact trivial | refine ⟨rfl, ?_⟩)))
    | (apply gateC; first
      | refine Cj.condF rfl rfl (Cj.skip rfl (Ej.go ?_ (fun _ _ h => h)))
      | (refine Cj.condF rfl rfl (Cj.skip rfl (Ej.back (fun _ _ h => h) (by repeat (first | exact .refl | apply DropTo.tail)) ?_)); repeat (first | exact trivial | refine ⟨rfl, ?_⟩))
      | refine Cj.condF rfl rfl ?_
      | refine Cj.condT rfl rfl ?_
      | refine Cj.exit rfl (Ej.go ?_ (fun _ _ h => h))
      | refine Cj.cond rfl rfl (fun h => ?_) (fun h => ?_)
      | refine Cj.skip rfl (Ej.go ?_ (fun _ _ h => h))
      | (refine Cj.skip rfl (Ej.back (fun _ _ h => h) (by repeat (first | exact .refl | apply DropTo.tail)) ?_); repeat (first | exact trivial | refine ⟨rfl, ?_⟩))
      | refine Cj.seq rfl ?_
      | refine Cj.region rfl ?_))
            refine Jl.nil (Ej.cutP (ι := Nat × Int × Int) _ _ _ _ (fun _ _ h => h) (i + 1, best, wd) ⟨⟨by omega, by rw [bst, hst]; exact by rw [stp, if_neg (fun h => h.elim (fun h => h ht) hn0), if_neg hgt]⟩, by dsimp only; omega⟩ ⟨rfl, rfl, rfl, rfl, rfl, rfl, rfl, trivial⟩ (by repeat (first | exact .nil | refine Pick.cons (by repeat (first | exact .z | apply OutAt.s)) ?_)) (fun p hp => hp))
    · repeat (first
    | (apply gateO; first
      | refine Jl.yd (Y.mv rfl rfl) rfl rfl rfl ?_
      | refine Jl.yd (Y.asg rfl rfl) rfl rfl rfl ?_
      | refine Jl.yd (Y.ext rfl rfl rfl) rfl rfl rfl ?_
      | refine Jl.yd (Y.pickT rfl rfl rfl) rfl rfl rfl ?_
      | refine Jl.yd (Y.pickF rfl rfl rfl) rfl rfl rfl ?_
      | refine Jl.off rfl rfl rfl ?_
      | refine Jl.yd (Y.cmpF rfl rfl rfl rfl (by omega)) rfl rfl rfl ?_
      | refine Jl.yd (Y.cmpT rfl rfl rfl rfl (by omega)) rfl rfl rfl ?_
      | refine Jl.yd (Y.neqB rfl rfl rfl Try.underlying4) rfl rfl rfl ?_
      | refine Jl.yd (Y.cmp rfl rfl rfl rfl) rfl rfl rfl ?_
      | refine Jl.yd (Y.not rfl rfl) rfl rfl rfl ?_
      | refine Jl.yd (Y.arithN rfl rfl rfl rfl (by omega)) rfl rfl rfl ?_
      | refine Jl.yd (Y.arith64 rfl rfl rfl rfl) rfl rfl rfl ?_
      | refine Jl.yd (Y.lenS Try.underlying25 rfl rfl rfl) rfl rfl rfl ?_
      | refine Jl.yd (Y.lenS Try.underlying29 rfl rfl rfl) rfl rfl rfl ?_
      | refine Jl.lit0 (Kd.int .i64) rfl rfl rfl rfl el29 (fun gr => ?_)
      | refine Jl.yd (Y.idx rfl rfl rfl el29 (by omega) (by omega)) rfl rfl rfl ?_
      | refine Jl.yd (Y.loadI rfl rfl sc3 (by repeat (first | exact .head _ | refine .tail _ ?_)) (i : Int) (by omega) (by omega) (by rfl)) rfl rfl rfl ?_
      | refine Jl.splitG rfl rfl (fun h => ?_) (fun h => ?_))
    | (apply gateE; first
      | refine Jl.nil (Ej.go ?_ (fun _ _ h => h))
      | (refine Jl.nil (Ej.back (fun _ _ h => h) (by repeat (first | exact .refl | apply DropTo.tail)) ?_); repeat (first | exact trivial | refine ⟨rfl, ?_⟩)))
    | (apply gateC; first
      | refine Cj.block rfl ?_
      | refine Cj.condF rfl rfl (Cj.skip rfl (Ej.go ?_ (fun _ _ h => h)))
      | (refine Cj.condF rfl rfl (Cj.skip rfl (Ej.back (fun _ _ h => h) (by repeat (first | exact .refl | apply DropTo.tail)) ?_)); repeat (first | exact trivial | refine ⟨rfl, ?_⟩))
      | refine Cj.condF rfl rfl ?_
      | refine Cj.condT rfl rfl ?_
      | refine Cj.exit rfl (Ej.go ?_ (fun _ _ h => h))
      | refine Cj.cond rfl rfl (fun h => ?_) (fun h => ?_)
      | refine Cj.skip rfl (Ej.go ?_ (fun _ _ h => h))
      | (refine Cj.skip rfl (Ej.back (fun _ _ h => h) (by repeat (first | exact .refl | apply DropTo.tail)) ?_); repeat (first | exact trivial | refine ⟨rfl, ?_⟩))
      | refine Cj.seq rfl ?_
      | refine Cj.region rfl ?_))
      refine Jl.nil (Ej.cutP (ι := Nat × Int × Int) _ _ _ _ (fun _ _ h => h) (i + 1, best, wd) ⟨⟨by omega, by rw [bst, hst]; exact by rw [stp, if_pos (.inl ht)]⟩, by dsimp only; omega⟩ ⟨rfl, rfl, rfl, rfl, rfl, rfl, rfl, trivial⟩ (by repeat (first | exact .nil | refine Pick.cons (by repeat (first | exact .z | apply OutAt.s)) ?_)) (fun p hp => hp))
  · obtain rfl : i = 8 := by omega
    have e1 : (bst ys.length m hi lo 8).1 = best := by rw [hst]
    by_cases hp : best ≥ 0
    · repeat (first
    | (apply gateO; first
      | refine Jl.yd (Y.mv rfl rfl) rfl rfl rfl ?_
      | refine Jl.yd (Y.asg rfl rfl) rfl rfl rfl ?_
      | refine Jl.yd (Y.ext rfl rfl rfl) rfl rfl rfl ?_
      | refine Jl.yd (Y.pickT rfl rfl rfl) rfl rfl rfl ?_
      | refine Jl.yd (Y.pickF rfl rfl rfl) rfl rfl rfl ?_
      | refine Jl.off rfl rfl rfl ?_
      | refine Jl.yd (Y.cmpF rfl rfl rfl rfl (by omega)) rfl rfl rfl ?_
      | refine Jl.yd (Y.cmpT rfl rfl rfl rfl (by omega)) rfl rfl rfl ?_
      | refine Jl.yd (Y.neqB rfl rfl rfl Try.underlying4) rfl rfl rfl ?_
      | refine Jl.yd (Y.cmp rfl rfl rfl rfl) rfl rfl rfl ?_
      | refine Jl.yd (Y.not rfl rfl) rfl rfl rfl ?_
      | refine Jl.yd (Y.arithN rfl rfl rfl rfl (by omega)) rfl rfl rfl ?_
      | refine Jl.yd (Y.arith64 rfl rfl rfl rfl) rfl rfl rfl ?_
      | refine Jl.yd (Y.mx rfl rfl rfl) rfl rfl rfl ?_
      | refine Jl.splitG rfl rfl (fun h => ?_) (fun h => ?_))
    | (apply gateE; first
      | refine Jl.nil (Ej.go ?_ (fun _ _ h => h))
      | (refine Jl.nil (Ej.back (fun _ _ h => h) (by repeat (first | exact .refl | apply DropTo.tail)) ?_); repeat (first | exact trivial | refine ⟨rfl, ?_⟩)))
    | (apply gateC; first
      | refine Cj.ret rfl (Ej.out2 (P := Try.prog) (fn := Try.f39) (R := Rr) (fun _ _ h => h) rfl rfl rfl (fun w' hW => ?_))
      | refine Cj.condF rfl rfl (Cj.skip rfl (Ej.go ?_ (fun _ _ h => h)))
      | (refine Cj.condF rfl rfl (Cj.skip rfl (Ej.back (fun _ _ h => h) (by repeat (first | exact .refl | apply DropTo.tail)) ?_)); repeat (first | exact trivial | refine ⟨rfl, ?_⟩))
      | refine Cj.condF rfl rfl ?_
      | refine Cj.condT rfl rfl ?_
      | refine Cj.exit rfl (Ej.go ?_ (fun _ _ h => h))
      | refine Cj.cond rfl rfl (fun h => ?_) (fun h => ?_)
      | refine Cj.skip rfl (Ej.go ?_ (fun _ _ h => h))
      | (refine Cj.skip rfl (Ej.back (fun _ _ h => h) (by repeat (first | exact .refl | apply DropTo.tail)) ?_); repeat (first | exact trivial | refine ⟨rfl, ?_⟩))
      | refine Cj.seq rfl ?_
      | refine Cj.region rfl ?_))
      exact ⟨by rw [e1, decide_eq_true hp], hW.below⟩
    · repeat (first
    | (apply gateO; first
      | refine Jl.yd (Y.mv rfl rfl) rfl rfl rfl ?_
      | refine Jl.yd (Y.asg rfl rfl) rfl rfl rfl ?_
      | refine Jl.yd (Y.ext rfl rfl rfl) rfl rfl rfl ?_
      | refine Jl.yd (Y.pickT rfl rfl rfl) rfl rfl rfl ?_
      | refine Jl.yd (Y.pickF rfl rfl rfl) rfl rfl rfl ?_
      | refine Jl.off rfl rfl rfl ?_
      | refine Jl.yd (Y.cmpF rfl rfl rfl rfl (by omega)) rfl rfl rfl ?_
      | refine Jl.yd (Y.cmpT rfl rfl rfl rfl (by omega)) rfl rfl rfl ?_
      | refine Jl.yd (Y.neqB rfl rfl rfl Try.underlying4) rfl rfl rfl ?_
      | refine Jl.yd (Y.cmp rfl rfl rfl rfl) rfl rfl rfl ?_
      | refine Jl.yd (Y.not rfl rfl) rfl rfl rfl ?_
      | refine Jl.yd (Y.arithN rfl rfl rfl rfl (by omega)) rfl rfl rfl ?_
      | refine Jl.yd (Y.arith64 rfl rfl rfl rfl) rfl rfl rfl ?_
      | refine Jl.yd (Y.mx rfl rfl rfl) rfl rfl rfl ?_
      | refine Jl.splitG rfl rfl (fun h => ?_) (fun h => ?_))
    | (apply gateE; first
      | refine Jl.nil (Ej.go ?_ (fun _ _ h => h))
      | (refine Jl.nil (Ej.back (fun _ _ h => h) (by repeat (first | exact .refl | apply DropTo.tail)) ?_); repeat (first | exact trivial | refine ⟨rfl, ?_⟩)))
    | (apply gateC; first
      | refine Cj.ret rfl (Ej.out2 (P := Try.prog) (fn := Try.f39) (R := Rr) (fun _ _ h => h) rfl rfl rfl (fun w' hW => ?_))
      | refine Cj.condF rfl rfl (Cj.skip rfl (Ej.go ?_ (fun _ _ h => h)))
      | (refine Cj.condF rfl rfl (Cj.skip rfl (Ej.back (fun _ _ h => h) (by repeat (first | exact .refl | apply DropTo.tail)) ?_)); repeat (first | exact trivial | refine ⟨rfl, ?_⟩))
      | refine Cj.condF rfl rfl ?_
      | refine Cj.condT rfl rfl ?_
      | refine Cj.exit rfl (Ej.go ?_ (fun _ _ h => h))
      | refine Cj.cond rfl rfl (fun h => ?_) (fun h => ?_)
      | refine Cj.skip rfl (Ej.go ?_ (fun _ _ h => h))
      | (refine Cj.skip rfl (Ej.back (fun _ _ h => h) (by repeat (first | exact .refl | apply DropTo.tail)) ?_); repeat (first | exact trivial | refine ⟨rfl, ?_⟩))
      | refine Cj.seq rfl ?_
      | refine Cj.region rfl ?_))
      exact ⟨by rw [e1, decide_eq_false hp], hW.below⟩
end BM
end Go.Proofs.Ytblihmohgfmpgaa.WK

namespace Go.Proofs.Ytblihmohgfmpgaa.M
open Go.RowKit Go.Proofs.Ytblihmohgfmpgaa.Q Go.Proofs.YtblihmohgfmpgaaW.PrintWords Go.Proofs.YtblihmohgfmpgaaW.PrintLast Go.Proofs.YtblihmohgfmpgaaW.Pl Go.Proofs.Ytblihmohgfmpgaa.WK.BM Classical
set_option linter.unusedSimpArgs false
set_option linter.unusedVariables false

/-- The greatest and the least of numbers from 0 to 100. -/
def hiV (v : List Int) : Int := v.foldl mx (-1)
def loV (v : List Int) : Int := v.foldl mn 101
theorem hiV_b : ∀ (v : List Int) (s : Int), (∀ x ∈ v, 0 ≤ x ∧ x ≤ 100) → -1 ≤ s → s ≤ 100 → s ≤ v.foldl mx s ∧ v.foldl mx s ≤ 100
  | [], s, _, h1, h2 => by simpa using h2
  | x :: r, s, h, h1, h2 => by
    have hx := h x (by simp)
    have e : s ≤ mx s x ∧ mx s x ≤ 100 ∧ -1 ≤ mx s x := by unfold mx; split <;> omega
    have := hiV_b r (mx s x) (fun y hy => h y (by simp [hy])) e.2.2 e.2.1
    simp only [List.foldl_cons]
    omega
theorem loV_b : ∀ (v : List Int) (s : Int), (∀ x ∈ v, 0 ≤ x ∧ x ≤ 100) → 0 ≤ s → s ≤ 101 → 0 ≤ v.foldl mn s ∧ v.foldl mn s ≤ s
  | [], s, _, h1, h2 => by simpa using h1
  | x :: r, s, h, h1, h2 => by
    have hx := h x (by simp)
    have e : mn s x ≤ s ∧ 0 ≤ mn s x := by unfold mn; split <;> omega
    have := loV_b r (mn s x) (fun y hy => h y (by simp [hy])) e.2 (by omega)
    simp only [List.foldl_cons]
    omega
theorem lo_le_hi {v : List Int} (h : ∀ x ∈ v, 0 ≤ x ∧ x ≤ 100) (hn : v ≠ []) : loV v ≤ hiV v := by
  cases v with
  | nil => exact absurd rfl hn
  | cons x r =>
    have hx := h x (by simp)
    have h1 := hiV_b r (mx (-1) x) (fun y hy => h y (by simp [hy])) (by unfold mx; split <;> omega) (by unfold mx; split <;> omega)
    have h2 := loV_b r (mn 101 x) (fun y hy => h y (by simp [hy])) (by unfold mn; split <;> omega) (by unfold mn; split <;> omega)
    have e1 : mx (-1) x = x := by unfold mx; rw [if_pos (by omega)]
    have e2 : mn 101 x = x := by unfold mn; rw [if_pos (by omega)]
    unfold loV hiV
    simp only [List.foldl_cons]
    rw [e1] at h1 ⊢
    rw [e2] at h2 ⊢
    omega
theorem maxL (v : List Int) (hv : v.length ≤ 1048576) : ∀ n (i : Nat) (s : Int), v.length - i = n → i ≤ v.length → Ev (fun k => slices_Max_int_int.l0 k v s (i : Int)) ((v.drop i).foldl mx s) := by
  intro n
  induction n with
  | zero =>
    intro i s hn hi
    obtain rfl : i = v.length := by omega
    refine Ev.succ ?_
    simp only [slices_Max_int_int.l0, if_neg (show ¬ ((v.length : Int) < (v.length : Int)) by omega), List.drop_length, List.foldl_nil]
    exact Ev.now _
  | succ n ih =>
    intro i s hn hi
    have hil : i < v.length := by omega
    refine Ev.succ ?_
    simp only [slices_Max_int_int.l0, rdI, if_pos (show (i : Int) < (v.length : Int) by omega), if_pos (show (0 : Int) ≤ (i : Int) by omega), stepI i (by omega)]
    have := ih (i + 1) (mx s (nth v i 0)) (by omega) (by omega)
    rw [List.drop_eq_getElem_cons hil, List.foldl_cons, ← nth_get (z := 0) hil]
    exact this
theorem minL (v : List Int) (hv : v.length ≤ 1048576) : ∀ n (i : Nat) (s : Int), v.length - i = n → i ≤ v.length → Ev (fun k => slices_Min_int_int.l0 k v s (i : Int)) ((v.drop i).foldl mn s) := by
  intro n
  induction n with
  | zero =>
    intro i s hn hi
    obtain rfl : i = v.length := by omega
    refine Ev.succ ?_
    simp only [slices_Min_int_int.l0, if_neg (show ¬ ((v.length : Int) < (v.length : Int)) by omega), List.drop_length, List.foldl_nil]
    exact Ev.now _
  | succ n ih =>
    intro i s hn hi
    have hil : i < v.length := by omega
    refine Ev.succ ?_
    simp only [slices_Min_int_int.l0, rdI, if_pos (show (i : Int) < (v.length : Int) by omega), if_pos (show (0 : Int) ≤ (i : Int) by omega), stepI i (by omega)]
    have := ih (i + 1) (mn s (nth v i 0)) (by omega) (by omega)
    rw [List.drop_eq_getElem_cons hil, List.foldl_cons, ← nth_get (z := 0) hil]
    exact this
theorem maxE (v : List Int) (hv : v.length ≤ 1048576) (h : ∀ x ∈ v, 0 ≤ x ∧ x ≤ 100) (hn : v.length ≠ 0) : Ev (fun k => slices_Max_int_int.f k v) (hiV v) := by
  have := maxL v hv (v.length - 1) 1 (rd v 0) (by omega) (by omega)
  unfold slices_Max_int_int.f
  simp only [if_neg (show ¬ (v.length : Int) < 1 by omega), if_pos (show 0 < (v.length : Int) by omega)]
  have e : (v.drop 1).foldl mx (rd v 0) = hiV v := by
    cases v with
    | nil => exact absurd rfl hn
    | cons x r =>
      have hx := h x (by simp)
      have e1 : mx (-1) x = x := by unfold mx; rw [if_pos (by omega)]
      unfold hiV
      rw [List.foldl_cons, e1]
      rfl
  rw [e] at this
  exact this
theorem minE (v : List Int) (hv : v.length ≤ 1048576) (h : ∀ x ∈ v, 0 ≤ x ∧ x ≤ 100) (hn : v.length ≠ 0) : Ev (fun k => slices_Min_int_int.f k v) (loV v) := by
  have := minL v hv (v.length - 1) 1 (rd v 0) (by omega) (by omega)
  unfold slices_Min_int_int.f
  simp only [if_neg (show ¬ (v.length : Int) < 1 by omega), if_pos (show 0 < (v.length : Int) by omega)]
  have e : (v.drop 1).foldl mn (rd v 0) = loV v := by
    cases v with
    | nil => exact absurd rfl hn
    | cons x r =>
      have hx := h x (by simp)
      have e1 : mn 101 x = x := by unfold mn; rw [if_pos (by omega)]
      unfold loV
      rw [List.foldl_cons, e1]
      rfl
  rw [e] at this
  exact this
theorem mostE (a b : Int) : spec_l1Most.f a b = some (mx a b) := by
  unfold spec_l1Most.f mx
  split <;> split <;> first | rfl | (congr 1; omega)
theorem leastE (a b : Int) : spec_l1Least.f a b = some (mn a b) := by
  unfold spec_l1Least.f mn
  split <;> split <;> first | rfl | (congr 1; omega)
theorem col_b {l : List S69} {m : List Int} {a b : Int} (hb : both l m a b = true) (i : Nat) : ∀ x ∈ col (l.filter (posF m a b)) i, 0 ≤ x ∧ x ≤ 100 := by
  intro v hv
  unfold col at hv
  obtain ⟨x, hx, rfl⟩ := List.mem_map.1 hv
  obtain ⟨j, hj, rfl⟩ := List.mem_iff_getElem.1 (List.mem_filter.1 hx).1
  obtain ⟨f1, _, _⟩ := fit_at hb j hj
  rw [nth_get hj] at f1
  rw [Int.toNat_natCast]
  by_cases hi : i < 8
  · exact f1.bs i hi
  · rw [List.getD_eq_getElem?_getD, List.getElem?_eq_none (by rw [f1.ls]; omega)]
    simp
/-- The bounds over the possible schools from j on. -/
theorem innerE {l : List S69} {m : List Int} {a b : Int} (hb : both l m a b = true) (bi wd : Int) (i : Nat) (hi : i < 8) (q : Int × Bool) : ∀ n (j : Nat) (low high : Int), l.length - j = n → j ≤ l.length →
    Ev (fun k => spec_BestMark.l1 k l bi wd (i : Int) ((col ((l.drop j).filter (posF m a b)) i).foldl mn low) ((col ((l.drop j).filter (posF m a b)) i).foldl mx high) (l.length : Int) m a b) q → Ev (fun k => spec_BestMark.l1 k l bi wd (i : Int) low high (j : Int) m a b) q := by
  obtain ⟨hl6, _⟩ := both_at hb
  intro n
  induction n with
  | zero =>
    intro j low high hn hj hq
    obtain rfl : j = l.length := by omega
    rw [List.drop_length] at hq
    exact hq
  | succ n ih =>
    intro j low high hn hj hq
    have hjl : j < l.length := by omega
    obtain ⟨f1, f2, f3⟩ := fit_at hb j hjl
    have hC := (canBoth f1 (nth l j z69).f0 (nth l j z69).f2 (nth l j z69).f3 a b f2 f3).1
    have hls := f1.ls
    rw [List.drop_eq_getElem_cons hjl, ← nth_get (z := z69) hjl] at hq
    refine Ev.succ ?_
    simp only [spec_BestMark.l1, rd69, if_pos (show (j : Int) < (l.length : Int) by omega), if_pos (show (0 : Int) ≤ (j : Int) by omega), stepI j (by omega)]
    refine Ev.bind hC ?_
    by_cases hp : can (nth l j z69).f1 m (nth l j z69).f2 (nth l j z69).f3 a b = true
    · have hpF : posF m a b (nth l j z69) = true := hp
      rw [List.filter_cons_of_pos hpF] at hq
      simp only [hp, if_true, if_pos (show (0 : Int) ≤ (i : Int) by omega), if_pos (show (i : Int) < ((nth l j z69).f1.length : Int) by omega), rdI, mostE, leastE, Option.bind_some]
      refine ih (j + 1) _ _ (by omega) (by omega) ?_
      have e : col (nth l j z69 :: (l.drop (j + 1)).filter (posF m a b)) i = nth (nth l j z69).f1 i 0 :: col ((l.drop (j + 1)).filter (posF m a b)) i := by
        unfold col
        rw [List.map_cons, Int.toNat_natCast]
        rfl
      rw [e] at hq
      exact hq
    · have hpF : ¬ posF m a b (nth l j z69) = true := hp
      rw [List.filter_cons_of_neg hpF] at hq
      simp only [hp, Bool.false_eq_true, if_false]
      exact ih (j + 1) _ _ (by omega) (by omega) hq
theorem sBestLoop {l : List S69} {m : List Int} {a b : Int} (hb : both l m a b = true) (hi lo : Nat → Int) (hhi : hi = fun i => hiV (col (l.filter (posF m a b)) i)) (hlo : lo = fun i => loV (col (l.filter (posF m a b)) i)) :
    Ev (fun k => spec_BestMark.l0 k l 0 (-1) 0 m a b) (if 0 > (bst (l.filter (posF m a b)).length m hi lo 8).1 then 0 else (bst (l.filter (posF m a b)).length m hi lo 8).1, decide ((bst (l.filter (posF m a b)).length m hi lo 8).1 ≥ 0)) := by
  obtain ⟨hl6, hat, hm8, _⟩ := both_at hb
  generalize hn : (l.filter (posF m a b)).length = nF
  have main : ∀ n (i : Nat) (bs ws : Int), 8 - i = n → i ≤ 8 → ws = (bst nF m hi lo i).2 → bs = (if 0 > (bst nF m hi lo i).1 then 0 else (bst nF m hi lo i).1) → ((bst nF m hi lo i).2 ≥ 0 ↔ (bst nF m hi lo i).1 ≥ 0) → -1 ≤ (bst nF m hi lo i).2 →
      Ev (fun k => spec_BestMark.l0 k l bs ws (i : Int) m a b) (if 0 > (bst nF m hi lo 8).1 then 0 else (bst nF m hi lo 8).1, decide ((bst nF m hi lo 8).1 ≥ 0)) := by
    intro n
    induction n with
    | zero =>
      intro i bs ws hni hi8 h1 h2 h3 h4
      obtain rfl : i = 8 := by omega
      refine Ev.succ ?_
      simp only [spec_BestMark.l0, if_neg (show ¬ (((8 : Nat) : Int) < (m.length : Int)) by omega)]
      rw [h2, h1, show decide ((bst nF m hi lo 8).2 ≥ 0) = decide ((bst nF m hi lo 8).1 ≥ 0) from decide_eq_decide.2 h3]
      exact Ev.now _
    | succ n ih =>
      intro i bs ws hni hi8 h1 h2 h3 h4
      have hil : i < 8 := by omega
      refine Ev.succ ?_
      simp only [spec_BestMark.l0, if_pos (show (i : Int) < (m.length : Int) by omega)]
      refine innerE hb bs ws i hil _ l.length 0 101 (-1) rfl (Nat.zero_le _) ?_
      rw [List.drop_zero]
      have eh : (col (l.filter (posF m a b)) i).foldl mx (-1) = hi i := by rw [hhi]; rfl
      have el : (col (l.filter (posF m a b)) i).foldl mn 101 = lo i := by rw [hlo]; rfl
      have hB1 := hiV_b (col (l.filter (posF m a b)) i) (-1) (col_b hb i) (by omega) (by omega)
      have hB2 := loV_b (col (l.filter (posF m a b)) i) 101 (col_b hb i) (by omega) (by omega)
      have hlen : (col (l.filter (posF m a b)) i).length = nF := by rw [← hn]; unfold col; rw [List.length_map]
      have hle : nF ≠ 0 → lo i ≤ hi i := fun h0 => by
        have := lo_le_hi (col_b hb i) (fun e => h0 (by rw [← hlen, e]; rfl))
        rw [hlo, hhi]; exact this
      have hz : nF = 0 → hi i = -1 ∧ lo i = 101 := fun h0 => by
        have e0 : col (l.filter (posF m a b)) i = [] := List.eq_nil_of_length_eq_zero (by rw [hlen, h0])
        rw [hlo, hhi]
        simp only [e0]
        exact ⟨rfl, rfl⟩
      rw [eh] at hB1 ⊢
      rw [el] at hB2 ⊢
      clear eh el hlen
      have hst : bst nF m hi lo (i + 1) = stp nF m hi lo (bst nF m hi lo i) i := rfl
      generalize bst nF m hi lo i = s at h1 h2 h3 h4 hst
      obtain ⟨s1, s2⟩ := s
      dsimp only at h1 h2 h3 h4
      unfold stp at hst
      rw [Int.toNat_natCast] at hst
      have hm : m.getD i 0 = nth m i 0 := rfl
      rw [hm] at hst
      refine Ev.succ ?_
      simp only [spec_BestMark.l1, if_neg (show ¬ ((l.length : Int) < (l.length : Int)) by omega), if_pos (show (0 : Int) ≤ (i : Int) by omega), if_pos (show (i : Int) < (m.length : Int) by omega), rdI, stepI i (by omega)]
      have hw : wrap64 (hi i - lo i) = hi i - lo i := w64 (by omega)
      rw [hw]
      by_cases ht : nth m i 0 = -1
      · simp only [if_pos ht]
        by_cases h0 : nF = 0
        · obtain ⟨z1, z2⟩ := hz h0
          simp only [if_neg (show ¬ hi i ≥ lo i by omega)]
          rw [if_pos (.inr h0)] at hst
          exact ih (i + 1) bs ws (by omega) (by omega) (by rw [hst]; exact h1) (by rw [hst]; exact h2) (by rw [hst]; exact h3) (by rw [hst]; exact h4)
        · have hle' := hle h0
          simp only [if_pos (show hi i ≥ lo i by omega)]
          rw [if_neg (fun h => h.elim (fun h => h ht) h0)] at hst
          dsimp only at hst
          by_cases hg : hi i - lo i > ws
          · simp only [if_pos hg]
            rw [if_pos (show hi i - lo i > s2 by omega)] at hst
            refine ih (i + 1) _ _ (by omega) (by omega) (by rw [hst]) ?_ ?_ ?_
            · rw [hst]; dsimp only; rw [if_neg (by omega)]
            · rw [hst]; dsimp only; omega
            · rw [hst]; dsimp only; omega
          · simp only [if_neg hg]
            rw [if_neg (show ¬ hi i - lo i > s2 by omega)] at hst
            exact ih (i + 1) bs ws (by omega) (by omega) (by rw [hst]; exact h1) (by rw [hst]; exact h2) (by rw [hst]; exact h3) (by rw [hst]; exact h4)
      · simp only [if_neg ht]
        rw [if_pos (.inl ht)] at hst
        exact ih (i + 1) bs ws (by omega) (by omega) (by rw [hst]; exact h1) (by rw [hst]; exact h2) (by rw [hst]; exact h3) (by rw [hst]; exact h4)
  exact main 8 0 0 (-1) rfl (Nat.zero_le _) rfl rfl (by simp [bst]) (by simp [bst])
end Go.Proofs.Ytblihmohgfmpgaa.M

namespace Go.Proofs.Ytblihmohgfmpgaa.WKMBW
open Go Go.RowKit Go.Proofs.Ytblihmohgfmpgaa.Q Go.Proofs.Ytblihmohgfmpgaa.M Go.Proofs.YtblihmohgfmpgaaW.PrintWords Go.Proofs.YtblihmohgfmpgaaW.Pl Go.Proofs.YtblihmohgfmpgaaW.SL Go.Proofs.Ytblihmohgfmpgaa.WK
set_option linter.unusedSimpArgs false
set_option linter.unusedVariables false
set_option maxRecDepth 100000
theorem agg31 : AggT Try.prog 31 3 := ⟨by kernel_rfl⟩
theorem agg35 : AggT Try.prog 35 3 := ⟨by kernel_rfl⟩
theorem sz35 : SzT Try.prog 35 3 := ⟨by kernel_rfl⟩
theorem sz3 : SzT Try.prog 3 1 := ⟨by kernel_rfl⟩
theorem zero35 : ZeroT Try.prog 35 [.slice none 0 0, .int .i64 0, .int .i64 0] := ⟨by kernel_rfl⟩
theorem en13 : Ent Try.prog 13 := ⟨enters_of Try.func13 (by kernel_rfl) rfl⟩
theorem en18 : Ent Try.prog 18 := ⟨enters_of Try.func18 (by kernel_rfl) rfl⟩
theorem en15 : Ent Try.prog 15 := ⟨enters_of Try.func15 (by kernel_rfl) rfl⟩
theorem en20 : Ent Try.prog 20 := ⟨enters_of Try.func20 (by kernel_rfl) rfl⟩
theorem en38 : Ent Try.prog 38 := ⟨enters_of Try.func38 (by kernel_rfl) rfl⟩
theorem en39 : Ent Try.prog 39 := ⟨enters_of Try.func39 (by kernel_rfl) rfl⟩
theorem en17 : Ent Try.prog 17 := ⟨enters_of Try.func17 (by kernel_rfl) rfl⟩
theorem en22 : Ent Try.prog 22 := ⟨enters_of Try.func22 (by kernel_rfl) rfl⟩
theorem mixed : Try.prog.follows .mixedOrders = true := by kernel_rfl
set_option maxHeartbeats 2000000 in
theorem walkA (l0 : List S68) (m : List Int) (a b : Int) (A0 : Option Addr) (c0 : Nat) (A1 : Option Addr) (c1 : Nat) (w : World) (hr0 : Kd.C k68 w A0 l0.length l0) (hc0 : l0.length ≤ c0) (hr1 : Kd.C (Kd.int .i64) w A1 m.length m) (hc1 : m.length ≤ c1) (kz : Nat) (r : Int) (hz : laws_szSchoolS.f kz l0 1048576 = some r) (hr : r < 0) : Calls Try.prog 10 #[.slice A0 l0.length c0, .agg #[.slice A1 m.length c1, .int .i64 a, .int .i64 b]] w fun e w' => e = .returned (.bool true) ∧ Below w.heap.size w w' := by
  refine enterW (args := [.slice A0 l0.length c0, .agg #[.slice A1 m.length c1, .int .i64 a, .int .i64 b]]) [fun w => Kd.C k68 w A0 l0.length l0, fun w => Kd.C (Kd.int .i64) w A1 m.length m] (fun p hp W hb => by
    rcases List.mem_cons.1 hp with rfl | hp
    · exact Kd.C_below hr0 hb
    · rw [List.mem_singleton.1 hp]; exact Kd.C_below hr1 hb) Try.func10 rfl rfl ?_
  repeat (first
    | (apply gateO; first
      | refine Jl.yd (Y.mv rfl rfl) rfl rfl rfl ?_
      | refine Jl.yd (Y.asg rfl rfl) rfl rfl rfl ?_
      | refine Jl.yd (Y.ext rfl rfl rfl) rfl rfl rfl ?_
      | refine Jl.yd (Y.pickT rfl rfl rfl) rfl rfl rfl ?_
      | refine Jl.yd (Y.pickF rfl rfl rfl) rfl rfl rfl ?_
      | refine Jl.off rfl rfl rfl ?_
      | refine Jl.yd (Y.cmpF rfl rfl rfl rfl (by omega)) rfl rfl rfl ?_
      | refine Jl.yd (Y.cmpT rfl rfl rfl rfl (by omega)) rfl rfl rfl ?_
      | refine Jl.yd (Y.neqB rfl rfl rfl Try.underlying4) rfl rfl rfl ?_
      | refine Jl.yd (Y.cmp rfl rfl rfl rfl) rfl rfl rfl ?_
      | refine Jl.yd (Y.not rfl rfl) rfl rfl rfl ?_
      | refine Jl.yd (Y.arithN rfl rfl rfl rfl (by omega)) rfl rfl rfl ?_
      | refine Jl.yd (Y.arith64 rfl rfl rfl rfl) rfl rfl rfl ?_
      | refine Jl.yd (Y.loadA rfl rfl agg31 (by repeat (first | exact .head _ | refine .tail _ ?_)) (by rfl)) rfl rfl rfl ?_
      | refine Jl.yd (Y.loadA rfl rfl agg35 (by repeat (first | exact .head _ | refine .tail _ ?_)) (by rfl)) rfl rfl rfl ?_
      | refine Jl.alloc rfl rfl rfl rfl zero35 (fun g => ?_)
      | refine Jl.storeA rfl rfl rfl rfl rfl sz35 (by repeat (first | exact .z | apply SetAt.s)) (by rfl) (by rfl) ?_
      | refine Jl.store1 rfl rfl rfl rfl rfl sz3 rfl (by repeat (first | exact .head _ | refine .tail _ ?_)) (by repeat (first | exact .z | apply PutAt.s)) (by repeat (first | exact .z | apply SetAt.s)) ?_
      | refine Jl.call1 (v := .int .i64 r) rfl rfl rfl rfl en13 rfl (fun w hW => by with_reducible exact laws_szSchoolS.calls kz _ _ l0 1048576 r w (hW.at 0 rfl) hc0 hz) ?_
      | refine Jl.box (zs := [.slice A1 m.length c1, .int .i64 a, .int .i64 b]) rfl rfl rfl rfl rfl (by rfl) (fun g => ?_)
      | refine Jl.splitG rfl rfl (fun h => ?_) (fun h => ?_))
    | (apply gateE; first
      | refine Jl.nil (Ej.go ?_ (fun _ _ h => h))
      | (refine Jl.nil (Ej.back (fun _ _ h => h) (by repeat (first | exact .refl | apply DropTo.tail)) ?_); repeat (first | exact trivial | refine ⟨rfl, ?_⟩)))
    | (apply gateC; first
      | refine Cj.ret rfl (Ej.out1 (P := Try.prog) (fn := Try.f10) (R := fun e w' => e = .returned (.bool true) ∧ Below w.heap.size w w') (fun _ _ h => h) rfl rfl (fun w hW => ⟨rfl, hW.below⟩))
      | refine Cj.condF rfl rfl (Cj.skip rfl (Ej.go ?_ (fun _ _ h => h)))
      | (refine Cj.condF rfl rfl (Cj.skip rfl (Ej.back (fun _ _ h => h) (by repeat (first | exact .refl | apply DropTo.tail)) ?_)); repeat (first | exact trivial | refine ⟨rfl, ?_⟩))
      | refine Cj.condF rfl rfl ?_
      | refine Cj.condT rfl rfl ?_
      | refine Cj.exit rfl (Ej.go ?_ (fun _ _ h => h))
      | refine Cj.cond rfl rfl (fun h => ?_) (fun h => ?_)
      | refine Cj.skip rfl (Ej.go ?_ (fun _ _ h => h))
      | (refine Cj.skip rfl (Ej.back (fun _ _ h => h) (by repeat (first | exact .refl | apply DropTo.tail)) ?_); repeat (first | exact trivial | refine ⟨rfl, ?_⟩))
      | refine Cj.seq rfl ?_
      | refine Cj.region rfl ?_))

set_option maxHeartbeats 2000000 in
theorem walkB (l0 : List S68) (m : List Int) (a b : Int) (A0 : Option Addr) (c0 : Nat) (A1 : Option Addr) (c1 : Nat) (w : World) (hr0 : Kd.C k68 w A0 l0.length l0) (hc0 : l0.length ≤ c0) (hr1 : Kd.C (Kd.int .i64) w A1 m.length m) (hc1 : m.length ≤ c1) (kz : Nat) (r r2 : Int) (hz : laws_szSchoolS.f kz l0 1048576 = some r) (hr : ¬ r < 0) (hp : laws_szPiece.f m a b r = some r2) (hr2 : r2 < 0) : Calls Try.prog 10 #[.slice A0 l0.length c0, .agg #[.slice A1 m.length c1, .int .i64 a, .int .i64 b]] w fun e w' => e = .returned (.bool true) ∧ Below w.heap.size w w' := by
  refine enterW (args := [.slice A0 l0.length c0, .agg #[.slice A1 m.length c1, .int .i64 a, .int .i64 b]]) [fun w => Kd.C k68 w A0 l0.length l0, fun w => Kd.C (Kd.int .i64) w A1 m.length m] (fun p hp W hb => by
    rcases List.mem_cons.1 hp with rfl | hp
    · exact Kd.C_below hr0 hb
    · rw [List.mem_singleton.1 hp]; exact Kd.C_below hr1 hb) Try.func10 rfl rfl ?_
  repeat (first
    | (apply gateO; first
      | refine Jl.yd (Y.mv rfl rfl) rfl rfl rfl ?_
      | refine Jl.yd (Y.asg rfl rfl) rfl rfl rfl ?_
      | refine Jl.yd (Y.ext rfl rfl rfl) rfl rfl rfl ?_
      | refine Jl.yd (Y.pickT rfl rfl rfl) rfl rfl rfl ?_
      | refine Jl.yd (Y.pickF rfl rfl rfl) rfl rfl rfl ?_
      | refine Jl.off rfl rfl rfl ?_
      | refine Jl.yd (Y.cmpF rfl rfl rfl rfl (by omega)) rfl rfl rfl ?_
      | refine Jl.yd (Y.cmpT rfl rfl rfl rfl (by omega)) rfl rfl rfl ?_
      | refine Jl.yd (Y.neqB rfl rfl rfl Try.underlying4) rfl rfl rfl ?_
      | refine Jl.yd (Y.cmp rfl rfl rfl rfl) rfl rfl rfl ?_
      | refine Jl.yd (Y.not rfl rfl) rfl rfl rfl ?_
      | refine Jl.yd (Y.arithN rfl rfl rfl rfl (by omega)) rfl rfl rfl ?_
      | refine Jl.yd (Y.arith64 rfl rfl rfl rfl) rfl rfl rfl ?_
      | refine Jl.yd (Y.loadA rfl rfl agg31 (by repeat (first | exact .head _ | refine .tail _ ?_)) (by rfl)) rfl rfl rfl ?_
      | refine Jl.yd (Y.loadA rfl rfl agg35 (by repeat (first | exact .head _ | refine .tail _ ?_)) (by rfl)) rfl rfl rfl ?_
      | refine Jl.alloc rfl rfl rfl rfl zero35 (fun g => ?_)
      | refine Jl.storeA rfl rfl rfl rfl rfl sz35 (by repeat (first | exact .z | apply SetAt.s)) (by rfl) (by rfl) ?_
      | refine Jl.store1 rfl rfl rfl rfl rfl sz3 rfl (by repeat (first | exact .head _ | refine .tail _ ?_)) (by repeat (first | exact .z | apply PutAt.s)) (by repeat (first | exact .z | apply SetAt.s)) ?_
      | refine Jl.call1 (v := .int .i64 r) rfl rfl rfl rfl en13 rfl (fun w hW => by with_reducible exact laws_szSchoolS.calls kz _ _ l0 1048576 r w (hW.at 0 rfl) hc0 hz) ?_
      | refine Jl.call1 (v := .int .i64 r2) rfl rfl rfl rfl en18 rfl (fun w hW => by with_reducible exact laws_szPiece.calls _ _ m a b r r2 w (hW.at 1 rfl) hc1 hp) ?_
      | refine Jl.box (zs := [.slice A1 m.length c1, .int .i64 a, .int .i64 b]) rfl rfl rfl rfl rfl (by rfl) (fun g => ?_)
      | refine Jl.splitG rfl rfl (fun h => ?_) (fun h => ?_))
    | (apply gateE; first
      | refine Jl.nil (Ej.go ?_ (fun _ _ h => h))
      | (refine Jl.nil (Ej.back (fun _ _ h => h) (by repeat (first | exact .refl | apply DropTo.tail)) ?_); repeat (first | exact trivial | refine ⟨rfl, ?_⟩)))
    | (apply gateC; first
      | refine Cj.ret rfl (Ej.out1 (P := Try.prog) (fn := Try.f10) (R := fun e w' => e = .returned (.bool true) ∧ Below w.heap.size w w') (fun _ _ h => h) rfl rfl (fun w hW => ⟨rfl, hW.below⟩))
      | refine Cj.condF rfl rfl (Cj.skip rfl (Ej.go ?_ (fun _ _ h => h)))
      | (refine Cj.condF rfl rfl (Cj.skip rfl (Ej.back (fun _ _ h => h) (by repeat (first | exact .refl | apply DropTo.tail)) ?_)); repeat (first | exact trivial | refine ⟨rfl, ?_⟩))
      | refine Cj.condF rfl rfl ?_
      | refine Cj.condT rfl rfl ?_
      | refine Cj.exit rfl (Ej.go ?_ (fun _ _ h => h))
      | refine Cj.cond rfl rfl (fun h => ?_) (fun h => ?_)
      | refine Cj.skip rfl (Ej.go ?_ (fun _ _ h => h))
      | (refine Cj.skip rfl (Ej.back (fun _ _ h => h) (by repeat (first | exact .refl | apply DropTo.tail)) ?_); repeat (first | exact trivial | refine ⟨rfl, ?_⟩))
      | refine Cj.seq rfl ?_
      | refine Cj.region rfl ?_))

set_option maxHeartbeats 8000000 in
theorem walkC (l0 : List S68) (m : List Int) (a b : Int) (A0 : Option Addr) (c0 : Nat) (A1 : Option Addr) (c1 : Nat) (w : World) (hr0 : Kd.C k68 w A0 l0.length l0) (hc0 : l0.length ≤ c0) (hr1 : Kd.C (Kd.int .i64) w A1 m.length m) (hc1 : m.length ≤ c1) (kz : Nat) (r r2 : Int) (hz : laws_szSchoolS.f kz l0 1048576 = some r) (hr : ¬ r < 0) (hp : laws_szPiece.f m a b r = some r2) (hr2 : ¬ r2 < 0)
    (l : List S69) (kt : Nat) (ht : laws_toSchoolS.f kt l0 = some l) (kp : Nat) (htp : laws_toPiece.f kp m a b = some (m, a, b))
    (q : Int) (qb : Bool) (ks : Nat) (hs : spec_BestMark.f ks l m a b = some (q, qb)) (kq : Nat) (hq : laws_eqSchoolS.f kq l l = some true) (kx : Nat) (hx : laws_eqPiece.f kx m a b m a b = some true)
    (hI : ∀ (A0 : Option Addr) (c0 : Nat) (A1 : Option Addr) (c1 : Nat) (w : World), (∃ P0 : Nat → Prop, Kd.V k69 69 w w.heap.size (fun k => P0 k) (.slice A0 l.length c0) l) → Kd.C (Kd.int .i64) w A1 m.length m → m.length ≤ c1 →
      Calls Try.prog 39 #[.slice A0 l.length c0, .agg #[.slice A1 m.length c1, .int .i64 a, .int .i64 b]] w fun e w' => e = .returned (.tuple #[.int .i64 q, .bool qb]) ∧ Below w.heap.size w w') : Calls Try.prog 10 #[.slice A0 l0.length c0, .agg #[.slice A1 m.length c1, .int .i64 a, .int .i64 b]] w fun e w' => e = .returned (.bool true) ∧ Below w.heap.size w w' := by
  refine enterW (args := [.slice A0 l0.length c0, .agg #[.slice A1 m.length c1, .int .i64 a, .int .i64 b]]) [fun w => Kd.C k68 w A0 l0.length l0, fun w => Kd.C (Kd.int .i64) w A1 m.length m] (fun p hp W hb => by
    rcases List.mem_cons.1 hp with rfl | hp
    · exact Kd.C_below hr0 hb
    · rw [List.mem_singleton.1 hp]; exact Kd.C_below hr1 hb) Try.func10 rfl rfl ?_
  repeat (first
    | (apply gateO; first
      | refine Jl.yd (Y.mv rfl rfl) rfl rfl rfl ?_
      | refine Jl.yd (Y.asg rfl rfl) rfl rfl rfl ?_
      | refine Jl.yd (Y.ext rfl rfl rfl) rfl rfl rfl ?_
      | refine Jl.yd (Y.pickT rfl rfl rfl) rfl rfl rfl ?_
      | refine Jl.yd (Y.pickF rfl rfl rfl) rfl rfl rfl ?_
      | refine Jl.off rfl rfl rfl ?_
      | refine Jl.yd (Y.cmpF rfl rfl rfl rfl (by omega)) rfl rfl rfl ?_
      | refine Jl.yd (Y.cmpT rfl rfl rfl rfl (by omega)) rfl rfl rfl ?_
      | refine Jl.yd (Y.neqB rfl rfl rfl Try.underlying4) rfl rfl rfl ?_
      | refine Jl.yd (Y.cmp rfl rfl rfl rfl) rfl rfl rfl ?_
      | refine Jl.yd (Y.not rfl rfl) rfl rfl rfl ?_
      | refine Jl.yd (Y.arithN rfl rfl rfl rfl (by omega)) rfl rfl rfl ?_
      | refine Jl.yd (Y.arith64 rfl rfl rfl rfl) rfl rfl rfl ?_
      | refine Jl.yd (Y.loadA rfl rfl agg31 (by repeat (first | exact .head _ | refine .tail _ ?_)) (by rfl)) rfl rfl rfl ?_
      | refine Jl.yd (Y.loadA rfl rfl agg35 (by repeat (first | exact .head _ | refine .tail _ ?_)) (by rfl)) rfl rfl rfl ?_
      | refine Jl.alloc rfl rfl rfl rfl zero35 (fun g => ?_)
      | refine Jl.storeA rfl rfl rfl rfl rfl sz35 (by repeat (first | exact .z | apply SetAt.s)) (by rfl) (by rfl) ?_
      | refine Jl.store1 rfl rfl rfl rfl rfl sz3 rfl (by repeat (first | exact .head _ | refine .tail _ ?_)) (by repeat (first | exact .z | apply PutAt.s)) (by repeat (first | exact .z | apply SetAt.s)) ?_
      | refine Jl.call1 (v := .int .i64 r) rfl rfl rfl rfl en13 rfl (fun w hW => by with_reducible exact laws_szSchoolS.calls kz _ _ l0 1048576 r w (hW.at 0 rfl) hc0 hz) ?_
      | refine Jl.call1 (v := .int .i64 r2) rfl rfl rfl rfl en18 rfl (fun w hW => by with_reducible exact laws_szPiece.calls _ _ m a b r r2 w (hW.at 1 rfl) hc1 hp) ?_
      | refine Jl.callRS (fun v => v) rfl rfl rfl rfl en15 rfl (fun w hW => by with_reducible exact laws_toSchoolS.calls kt _ _ l0 l w (hW.at 0 rfl) hc0 ht) (fun A c hl => ?_)
      | refine Jl.callR 0 (fun v => .agg #[v, .int .i64 a, .int .i64 b]) rfl rfl rfl rfl en20 rfl (fun w hW => by with_reducible exact laws_toPiece.calls kp _ _ m a b m a b w (hW.at 1 rfl) hc1 htp) (fun A c hl => ?_)
      | refine Jl.call1 (v := .tuple #[.int .i64 q, .bool qb]) rfl rfl rfl rfl en38 rfl (fun w hW => by with_reducible exact spec_BestMark.calls ks _ _ l _ _ m a b q qb w (hW.rowSC (by repeat (first | exact memH | refine memT ?_))) (hW.rowSCap (by repeat (first | exact memH | refine memT ?_))).2 (hW.rowC (by repeat (first | exact memH | refine memT ?_))) (hW.rowCap (by repeat (first | exact memH | refine memT ?_))).2 hs) ?_
      | refine Jl.call1 (v := .tuple #[.int .i64 q, .bool qb]) rfl rfl rfl rfl en39 rfl (fun w hW => by with_reducible exact hI _ _ _ _ w (hW.rowSV (by repeat (first | exact memH | refine memT ?_))) (hW.rowC (by repeat (first | exact memH | refine memT ?_))) (hW.rowCap (by repeat (first | exact memH | refine memT ?_))).2) ?_
      | refine Jl.call1 (v := .bool true) rfl rfl rfl rfl en17 rfl (fun w hW => by with_reducible exact laws_eqSchoolS.calls kq _ _ l _ _ l true w (hW.rowSC (by repeat (first | exact memH | refine memT ?_))) (hW.rowSCap (by repeat (first | exact memH | refine memT ?_))).2 (hW.rowSC (by repeat (first | exact memH | refine memT ?_))) (hW.rowSCap (by repeat (first | exact memH | refine memT ?_))).2 hq) ?_
      | refine Jl.call1 (v := .bool true) rfl rfl rfl rfl en22 rfl (fun w hW => by with_reducible exact laws_eqPiece.calls kx _ _ m a b _ _ m a b true w (hW.rowC (by repeat (first | exact memH | refine memT ?_))) (hW.rowCap (by repeat (first | exact memH | refine memT ?_))).2 (hW.rowC (by repeat (first | exact memH | refine memT ?_))) (hW.rowCap (by repeat (first | exact memH | refine memT ?_))).2 hx) ?_
      | refine Jl.box (zs := [.slice A1 m.length c1, .int .i64 a, .int .i64 b]) rfl rfl rfl rfl rfl (by rfl) (fun g => ?_)
      | refine Jl.splitG rfl rfl (fun h => ?_) (fun h => ?_))
    | (apply gateE; first
      | refine Jl.nil (Ej.go ?_ (fun _ _ h => h))
      | (refine Jl.nil (Ej.back (fun _ _ h => h) (by repeat (first | exact .refl | apply DropTo.tail)) ?_); repeat (first | exact trivial | refine ⟨rfl, ?_⟩)))
    | (apply gateC; first
      | refine Cj.regionD rfl (mkD [0, 1, 5, 6, 7, 8, 9] []) [] [0, 2, 1, 3, 4, 5, 6, 7, 8, 9] mixed (by decide +kernel) ?_
      | refine Cj.regionD rfl (mkD [0, 1, 4] []) [] [0, 1, 2, 3, 4] mixed (by decide +kernel) ?_
      | refine Cj.ret rfl (Ej.out1 (P := Try.prog) (fn := Try.f10) (R := fun e w' => e = .returned (.bool true) ∧ Below w.heap.size w w') (fun _ _ h => h) rfl rfl (fun w hW => ⟨rfl, hW.below⟩))
      | refine Cj.condF rfl rfl (Cj.skip rfl (Ej.go ?_ (fun _ _ h => h)))
      | (refine Cj.condF rfl rfl (Cj.skip rfl (Ej.back (fun _ _ h => h) (by repeat (first | exact .refl | apply DropTo.tail)) ?_)); repeat (first | exact trivial | refine ⟨rfl, ?_⟩))
      | refine Cj.condF rfl rfl ?_
      | refine Cj.condT rfl rfl ?_
      | refine Cj.exit rfl (Ej.go ?_ (fun _ _ h => h))
      | refine Cj.cond rfl rfl (fun h => ?_) (fun h => ?_)
      | refine Cj.skip rfl (Ej.go ?_ (fun _ _ h => h))
      | (refine Cj.skip rfl (Ej.back (fun _ _ h => h) (by repeat (first | exact .refl | apply DropTo.tail)) ?_); repeat (first | exact trivial | refine ⟨rfl, ?_⟩))
      | refine Cj.seq rfl ?_
      | refine Cj.region rfl ?_))

end Go.Proofs.Ytblihmohgfmpgaa.WKMBW

namespace Go.Proofs.Ytblihmohgfmpgaa.Wk
open Go Go.RowKit Go.Proofs.Ytblihmohgfmpgaa.Q Go.Proofs.Ytblihmohgfmpgaa.M Go.Proofs.YtblihmohgfmpgaaW.PrintWords Go.Proofs.YtblihmohgfmpgaaW.Pl Go.Proofs.Ytblihmohgfmpgaa.WK
set_option linter.unusedSimpArgs false
set_option linter.unusedVariables false
/-- For every schools and piece: the program's best mark is the reference's, and nothing handed in is written. -/
theorem FnExactBestMark : laws_FnExactBestMark.Goal := by
  intro l0 m a b A0 c0 A1 c1 w hr0 hc0 hr1 hc1 ⟨hZ, hG⟩ hq0
  have hGl : ∀ x ∈ l0, x.f1.length ≤ maxLen := fun x hx => by have := hG x hx; unfold g68 at this; exact this.2.1.1
  have hml : m.length ≤ maxLen := by have := hq0; unfold g31 at this; exact this.1.1
  obtain ⟨r, hrE, hc⟩ := szSchools l0 hZ hGl
  obtain ⟨kz, hz⟩ := hrE.rounds
  rcases hc with hc | ⟨g1, g2, g3, g4⟩
  · exact WKMBW.walkA l0 m a b A0 c0 A1 c1 w hr0 hc0 hr1 hc1 kz r hz hc
  obtain ⟨r2, hp, hc2⟩ := szPiece m a b r hml ⟨g1, g2⟩
  rcases hc2 with hc2 | ⟨d1, d2⟩
  · exact WKMBW.walkB l0 m a b A0 c0 A1 c1 w hr0 hc0 hr1 hc1 kz r r2 hz (by omega) hp hc2
  have hl : (l0.map cvS).length ≤ 1048576 := by simp; exact g3
  have hg : ∀ i, i < (l0.map cvS).length → (nth (l0.map cvS) i z69).f1.length ≤ 1048576 := fun i hi => by
    have hi' : i < l0.length := by simpa using hi
    rw [nth_map (z := z68) hi']
    exact g4 i hi'
  obtain ⟨kt, ht⟩ := (toSchools l0 g3 g4).rounds
  generalize l0.map cvS = l at hl hg ht
  obtain ⟨kq, hq⟩ := (eqSchools l hl hg).rounds
  obtain ⟨kp, htp⟩ := (toPiece m a b d2).rounds
  obtain ⟨kx, hx⟩ := (eqPiece m a b d2).rounds
  obtain ⟨kb, hb⟩ := (iBoth l m a b hl).rounds
  have hS0 : both l m a b = false → Ev (fun k => spec_BestMark.f k l m a b) (0, false) := fun h => by
    unfold spec_BestMark.f
    refine Ev.bind (sBoth l m a b hl hg d2) ?_
    simp only [h, Bool.false_eq_true, if_false]
    exact Ev.now _
  cases hbo : both l m a b with
  | false =>
    rw [hbo] at hb
    obtain ⟨ks, hs⟩ := (hS0 hbo).rounds
    refine WKMBW.walkC l0 m a b A0 c0 A1 c1 w hr0 hc0 hr1 hc1 kz r r2 hz (by omega) hp (by omega) l kt ht kp htp _ _ ks hs kq hq kx hx (fun A0 c0 A1 c1 w ⟨P0, hV⟩ hr1 hc1 => ?_)
    obtain ⟨_, v2, v3⟩ := Kd.V_reads' hV
    exact BM.no P0 A0 c0 l m a b A1 c1 w v3 v2 hr1 hc1 kb hb
  | true =>
    rw [hbo] at hb
    obtain ⟨hi, hhi⟩ : ∃ hi : Nat → Int, hi = fun i => hiV (BM.col (l.filter (posF m a b)) i) := ⟨_, rfl⟩
    obtain ⟨lo, hlo⟩ : ∃ lo : Nat → Int, lo = fun i => loV (BM.col (l.filter (posF m a b)) i) := ⟨_, rfl⟩
    have hS1 : Ev (fun k => spec_BestMark.f k l m a b) (if 0 > (BM.bst (l.filter (posF m a b)).length m hi lo 8).1 then 0 else (BM.bst (l.filter (posF m a b)).length m hi lo 8).1, decide ((BM.bst (l.filter (posF m a b)).length m hi lo 8).1 ≥ 0)) := by
      unfold spec_BestMark.f
      refine Ev.bind (sBoth l m a b hl hg d2) ?_
      simp only [hbo, if_true]
      exact sBestLoop hbo hi lo hhi hlo
    obtain ⟨ks, hs⟩ := hS1.rounds
    obtain ⟨p1, p2⟩ := iParts hbo
    obtain ⟨_, hat, hm8, _⟩ := both_at hbo
    have hx8 : ∀ x, x ∈ l → x.f1.length = 8 := fun x hx => by
      obtain ⟨j, hj, rfl⟩ := List.mem_iff_getElem.1 hx
      have := (hat j hj).1
      rwa [nth_get hj] at this
    have hcl : ∀ i, (BM.col (l.filter (posF m a b)) i).length = (l.filter (posF m a b)).length := fun i => by unfold BM.col; rw [List.length_map]
    have hfl := List.length_filter_le (posF m a b) l
    exact WKMBW.walkC l0 m a b A0 c0 A1 c1 w hr0 hc0 hr1 hc1 kz r r2 hz (by omega) hp (by omega) l kt ht kp htp _ _ ks hs kq hq kx hx (fun A0 c0 A1 c1 w ⟨P0, hV⟩ hr1 hc1 => BM.yes P0 A0 c0 l m a b A1 c1 (posF m a b) hi lo w hV hr1 hc1 hl kb hb p1 hm8 hx8
      (fun i _ h0 => by rw [hhi]; exact (maxE _ (by rw [hcl]; omega) (col_b hbo i) (by rw [hcl]; exact h0)).rounds) (fun i _ h0 => by rw [hlo]; exact (minE _ (by rw [hcl]; omega) (col_b hbo i) (by rw [hcl]; exact h0)).rounds)
      (fun i => by
        have h1 := hiV_b (BM.col (l.filter (posF m a b)) i) (-1) (col_b hbo i) (by omega) (by omega)
        have h2 := loV_b (BM.col (l.filter (posF m a b)) i) 101 (col_b hbo i) (by omega) (by omega)
        rw [hhi, hlo]
        show -1000 ≤ hiV (BM.col (l.filter (posF m a b)) i) ∧ hiV (BM.col (l.filter (posF m a b)) i) ≤ 1000 ∧ -1000 ≤ loV (BM.col (l.filter (posF m a b)) i) ∧ loV (BM.col (l.filter (posF m a b)) i) ≤ 1000
        unfold hiV loV
        omega))
end Go.Proofs.Ytblihmohgfmpgaa.Wk

namespace Go.Proofs.Ytblihmohgfmpgaa.fnExactBestMark
open Go.ChangeShapes Go.WideShapes Go.ChangeAt Go.RowKit Go.Proofs.Ytblihmohgfmpgaa.Q Go.Proofs.YtblihmohgfmpgaaW.Open Go.Proofs.YtblihmohgfmpgaaW.PrintWords
set_option linter.unusedVariables false
theorem own : ownKnob Try.prog.godebug = none := by kernel_rfl
theorem laidOut : laidOutB Try.prog = true := by kernel_rfl
set_option maxRecDepth 100000 in
theorem lifted (os : Os) (started : os.Started) (H : Type) (enc : TypeId × Value → H) :
    ReturnsInHanded {} Try.checked os 10 .any (Rows.fnExactBestMarkSpec.pre6 enc Try.prog Try.f10 Rows.fnExactBestMarkRow.domain false) (Rows.fnExactBestMarkSpec.post enc Try.prog Try.f10 false true false false) := by
  refine returnsInHanded_of_change_sized (C := Try.checked) own started (by kernel_rfl) Try.func10
    (ChangeSpec.witness6 (enc := enc) (C := Try.checked) false ⟨#[], #[.slice none 0 0, .agg #[.slice none 0 0, .int .i64 0, .int .i64 0]], []⟩ 8 (by kernel_rfl) (by kernel_rfl) (by kernel_rfl) (by kernel_rfl)) ?_
  intro W base args ds gs before hval0 hW hcnd hsz0 _
  have hval : ∀ (j : Nat) t v, Try.f10.params[j]? = some t → args[j]? = some v → Value.okWide Try.prog W .any base t v := hval0
  have hW' := hW
  obtain ⟨p, q, hA0, hV, rfl, hfz, hnd⟩ := hW
  have hA : DataW.TrodAll enc Try.prog W 0 (fun _ => true) true Try.f10.params.toList args.toList ds p := hA0
  rw [Try.params10] at hA hval
  obtain ⟨v0, vs0, d0, ds0, p0, q0, hargs, rfl, rfl, h0, r0⟩ := trodAll_cons hA
  obtain ⟨v1, vs1, d1, ds1, p1, q1, rfl, rfl, rfl, h1, r1⟩ := trodAll_cons r0
  obtain ⟨rfl, rfl, rfl⟩ := trodAll_nil r1
  obtain rfl : args = #[v0, v1] := by cases args; simp_all
  obtain ⟨rfl, rfl⟩ := trodVars_none hV
  have k0 := h0
  have lt0 : ∀ x ∈ p0, x.block < W.heap.size := by obtain ⟨m, hm⟩ := k0; exact DataW.trod_lt m _ _ _ hm
  obtain ⟨a0, len0, cap0, rfl⟩ := okWide_slice Try.underlying22 (hval 0 22 v0 rfl rfl)
  obtain ⟨fu0, hf0⟩ := h0
  obtain ⟨x0, ⟨A0, c0, hk0, hc0, hr0⟩, q0⟩ := ((Opn.slice Try.underlying22 (n0 := 4) (by kernel_rfl) rfl opn68)).out hf0
  simp [Value.cells] at hk0
  obtain ⟨rfl, rfl, rfl⟩ := hk0
  have k1 := h1
  have lt1 : ∀ x ∈ p1, x.block < W.heap.size := by obtain ⟨m, hm⟩ := k1; exact DataW.trod_lt m _ _ _ hm
  obtain ⟨cs1, rfl, _⟩ := okWide_struct Try.underlying31 (hval 1 31 v1 rfl rfl)
  obtain ⟨fu1, hf1⟩ := h1
  obtain ⟨x1, hk1, q1⟩ := (opn31).out hf1
  have ho1 := k31_open hk1
  obtain ⟨A1_0, c1_0, ho1, hc1_0, hr1_0⟩ := ho1
  obtain rfl : cs1 = #[.slice A1_0 x1.f0.length c1_0, .int .i64 x1.f1, .int .i64 x1.f2] := by cases cs1; simpa [Value.cells] using ho1
  refine (Go.Proofs.Ytblihmohgfmpgaa.Wk.FnExactBestMark x0 x1.f0 x1.f1 x1.f2 _ _ A1_0 c1_0 W hr0 hc0 hr1_0 hc1_0 q0 q1).mono fun e W' ⟨he, bel⟩ => ?_
  subst he
  exact ⟨_, rfl, _, _, _, [], _, [], hW', trodAll_mk1 (shut_bool Try.underlying4 _), (trodAll_cons_mk (Below.trod laidOut (by kernel_rfl) (of_decide_eq_true (by kernel_rfl)) k0 bel lt0) (trodAll_cons_mk (Below.trod laidOut (by kernel_rfl) (of_decide_eq_true (by kernel_rfl)) k1 bel lt1) trodAll_mk0)), rfl, bel.frame _, fun h => by cases h⟩
theorem over : Rows.fnExactBestMarkRow.holds Try.pinned (OpenSpec.ofChange Rows.fnExactBestMarkSpec) :=
  OpenClaim.holds_of_wide 10 Try.f10 rfl rfl rfl rfl rfl rfl rfl ⟨rfl, rfl, rfl, rfl, rfl⟩ rfl rfl rfl rfl rfl (by kernel_rfl) Try.func10 (by kernel_rfl)
    (of_decide_eq_true (by kernel_rfl)) (by unfold Func.isWrapper; first | (rw [if_pos (by decide +kernel)]; kernel_rfl) | (rw [if_neg (by decide +kernel)]; exact ⟨rfl, rfl⟩))
    (fun os started H enc _ => lifted os started H enc)
theorem proved : Rows.FnExactBestMarkSaid := over
end Go.Proofs.Ytblihmohgfmpgaa.fnExactBestMark
namespace Go.Proofs.Ytblihmohgfmpgaa
/-- The row, under a short name, for the claim. -/
theorem fnExactBestMark_holds : Rows.FnExactBestMarkSaid := fnExactBestMark.proved
end Go.Proofs.Ytblihmohgfmpgaa

#print axioms Go.Proofs.Ytblihmohgfmpgaa.fnExactBestMark_holds
