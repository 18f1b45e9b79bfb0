/- The program's FirstMended returns what the reference's returns, for all arguments: no condition. -/
import Derived.KernelRfl
import Derived.Shelf.SlGeneric
import Derived.Ground.SlgmProg
import Derived.Test.YtkglpfdoefdhdaaRows
import Derived.WalkKit
import Derived.ProofKit
import Derived.OpenShut
import Derived.ShutString
import Derived.ChangeOld
import Derived.Below
import Derived.SizedLaws
import Derived.Carry
import Derived.ChangeVars
import Derived.Test.YtkglpfdoefdhdaaZFnExactFirstMended6
namespace Go.Proofs.Ytkglpfdoefdhdaa.WK
open Go Go.RowKit Go.Proofs.Ytkglpfdoefdhdaa.Q Go.Proofs.Ytkglpfdoefdhdaa.M Go.Proofs.YtkglpfdoefdhdaaW.PrintWords Go.Proofs.YtkglpfdoefdhdaaW.SL
open Go.Proofs.YtkglpfdoefdhdaaW.Pl (nth nth_get)
open Go.Proofs.Ytkglpfdoefdhdaa.M.MN (mm lostL lostE)
set_option linter.unusedSimpArgs false
set_option linter.unusedVariables false
set_option maxRecDepth 100000
namespace MO
theorem sc3 : ScT Try.prog 3 := ⟨by kernel_rfl⟩
theorem sc65 : ScT Try.prog 65 := ⟨by kernel_rfl⟩
theorem zero3 : ZeroT Try.prog 3 [.int .i64 0] := ⟨by kernel_rfl⟩
theorem el24 : ElT Try.prog 24 3 1 := ⟨by kernel_rfl⟩
theorem el65 : ElT Try.prog 65 76 4 := ⟨by kernel_rfl⟩
theorem en122 : Ent Try.prog 122 := ⟨enters_of Try.func122 (by kernel_rfl) rfl⟩
theorem en121 : Ent Try.prog 121 := ⟨enters_of Try.func121 (by kernel_rfl) rfl⟩
theorem en85 : Ent Try.prog 85 := ⟨enters_of Try.func85 (by kernel_rfl) rfl⟩
theorem en63 : Ent Try.prog 63 := ⟨enters_of Try.func63 (by kernel_rfl) rfl⟩
theorem en83 : Ent Try.prog 83 := ⟨enters_of Try.func83 (by kernel_rfl) rfl⟩
theorem mixed : Try.prog.follows .mixedOrders = true := by kernel_rfl
theorem ap24 : ApT Try.prog 24 3 1 8 := apT_of (z := .int .i64 0) Try.underlying24 (by kernel_rfl) rfl (by decide)

/-- Is a hole mended quicker than another one? -/
def ltM (wd : Int) (cs : List Int) (l : List S76) (a b : Int) : Bool := decide (mm wd cs (nth l a.toNat z76) < mm wd cs (nth l b.toNat z76))
def rng (n : Nat) : List Int := (List.range n).map fun i : Nat => (i : Int)
theorem rng_succ (n : Nat) : rng (n + 1) = rng n ++ [(n : Int)] := by simp [rng, List.range_succ]
theorem rng_len (n : Nat) : (rng n).length = n := by simp [rng]
theorem rng_mem {n : Nat} {a : Int} (h : a ∈ rng n) : ∃ i : Nat, i < n ∧ a = (i : Int) := by
  obtain ⟨i, hi, rfl⟩ := List.mem_map.1 h
  exact ⟨i, List.mem_range.1 hi, rfl⟩
/-- The holes so far, in the order in which they are mended. -/
def ordL (wd : Int) (cs : List Int) (l : List S76) (n : Nat) : List Int := isort (ltM wd cs l) (rng n)
theorem ordL_succ (wd : Int) (cs : List Int) (l : List S76) (n : Nat) : ordL wd cs l (n + 1) = insR (ltM wd cs l) (ordL wd cs l n) (n : Int) := by unfold ordL; rw [rng_succ, isort_snoc]
theorem ordL_len (wd : Int) (cs : List Int) (l : List S76) (n : Nat) : (ordL wd cs l n).length = n := by unfold ordL; rw [isort_len, rng_len]
theorem ordL_mem {wd : Int} {cs : List Int} {l : List S76} {n : Nat} {a : Int} (h : a ∈ ordL wd cs l n) : ∃ i : Nat, i < n ∧ a = (i : Int) := rng_mem (isort_mem h)
theorem goodHole {wd ht : Int} {cs : List Int} {l : List S76} (hg : goodH wd ht cs l = true) : goodC wd ht cs = true ∧ l.length ≤ 8 ∧ ∀ i, i < l.length → okH wd ht (nth l i z76) = true := by
  obtain ⟨h1, h2, h3⟩ := goodH_at hg
  refine ⟨h1, h2, fun i hi => ?_⟩
  have := h3 i hi
  unfold holeAt at this
  rw [Bool.and_eq_true] at this
  exact this.1
theorem outI {w0 w : World} {v : Value} {xs : List Int} {its : List Go.Proofs.YtkglpfdoefdhdaaW.SL.Item} {ps : List (World → Prop)} (h : WS (base w0) w its ps) (hpk : Pick its [.row KI 3 0 v xs]) : (Kd.int .i64).R 3 w w0.heap.size (fun _ => True) v xs := by
  obtain ⟨h1, S, ⟨Aa, C1, g1, g2, g3, g4⟩, h3, h4⟩ := h.pick hpk
  have hown : ∀ k, v.ownBlock = some k → w0.heap.size ≤ k := fun k hk => (h3 k ((g3 k).2 (.inl (g1.1.1 k hk)))).resolve_left (fun h => h)
  exact Kd.R_mono (Kd.R_raise (b := 0) (fun _ _ _ _ h => h) g1.1 hown) (fun _ _ => trivial)

set_option maxHeartbeats 4000000 in
/-- The closure: which of two holes takes longer? -/
theorem clo {wd ht : Int} {cs : List Int} {l : List S76} (hg : goodC wd ht cs = true) (ho : ∀ i, i < l.length → okH wd ht (nth l i z76) = true) (A0 : Option Addr) (c0 : Nat) (A1 : Option Addr) (c1 gc gh : Nat) (w : World) (hc : cs.length ≤ c0)
    (hbC : w.heap[gc]? = some (.cells ([.int .i64 wd, .int .i64 ht, .slice A0 cs.length c0] : List Value).toArray 26 (0, 0))) (hbH : w.heap[gh]? = some (.cells ([.slice A1 l.length c1] : List Value).toArray 65 (0, 0))) (hrC : Kd.C (Kd.int .i64) w A0 cs.length cs) (hrH : Kd.C k76 w A1 l.length l) (i k : Nat) (hi : i < l.length) (hk : k < l.length) (hl8 : l.length ≤ 8) :
    Calls Try.prog 121 (#[.int .i64 (i : Int), .int .i64 (k : Int)] ++ #[.pointer (some ⟨gc, 0, none⟩), .pointer (some ⟨gh, 0, none⟩)]) w fun e w' => e = .returned (.int .i64 (cmpI (mm wd cs (nth l i z76)) (mm wd cs (nth l k z76)))) ∧ Below w.heap.size w w' := by
  have hltC := blk_lt hbC
  have hltH := blk_lt hbH
  obtain ⟨ad, rfl, _⟩ := hrH.2.2 (by omega)
  obtain ⟨x, hx⟩ : ∃ x, nth l i z76 = x := ⟨_, rfl⟩
  obtain ⟨y, hy⟩ : ∃ y, nth l k z76 = y := ⟨_, rfl⟩
  have hxo : okH wd ht x = true := hx ▸ ho i hi
  have hyo : okH wd ht y = true := hy ▸ ho k hk
  have hux : ([.int .i64 (l.getD ((i : Int)).toNat z76).f0, .int .i64 (l.getD ((i : Int)).toNat z76).f1, .int .i64 (l.getD ((i : Int)).toNat z76).f2, .int .i64 (l.getD ((i : Int)).toNat z76).f3] : List Value) = [.int .i64 x.f0, .int .i64 x.f1, .int .i64 x.f2, .int .i64 x.f3] := by
    have hx2 : l.getD i z76 = x := hx
    rw [Int.toNat_natCast, hx2]
  have huy : ([.int .i64 (l.getD ((k : Int)).toNat z76).f0, .int .i64 (l.getD ((k : Int)).toNat z76).f1, .int .i64 (l.getD ((k : Int)).toNat z76).f2, .int .i64 (l.getD ((k : Int)).toNat z76).f3] : List Value) = [.int .i64 y.f0, .int .i64 y.f1, .int .i64 y.f2, .int .i64 y.f3] := by
    have hx2 : l.getD k z76 = y := hy
    rw [Int.toNat_natCast, hx2]
  rw [hx, hy]
  let Rr : Ending → World → Prop := fun e w' => e = .returned (.int .i64 (cmpI (mm wd cs x) (mm wd cs y))) ∧ Below w.heap.size w w'
  rw [show (#[Value.int .i64 (i : Int), .int .i64 (k : Int)] ++ #[Value.pointer (some ⟨gc, 0, none⟩), .pointer (some ⟨gh, 0, none⟩)] : Array Value) = [Value.int .i64 (i : Int), .int .i64 (k : Int), .pointer (some ⟨gc, 0, none⟩), .pointer (some ⟨gh, 0, none⟩)].toArray from by simp]
  refine enterW (args := [.int .i64 (i : Int), .int .i64 (k : Int), .pointer (some ⟨gc, 0, none⟩), .pointer (some ⟨gh, 0, none⟩)]) [(fun W => Cells W ⟨gc, 0, none⟩ [.int .i64 wd, .int .i64 ht, .slice A0 cs.length c0]), (fun W => Cells W ⟨gh, 0, none⟩ [.slice (some ad) l.length c1]), (fun W => Kd.C (Kd.int .i64) W A0 cs.length cs), (fun W => Kd.C k76 W (some ad) l.length l)] (fun p hp W hb => by
    rcases List.mem_cons.1 hp with rfl | hp
    · have := Box_cells (w := W) (g := gc) (T' := 26) (cs := [.int .i64 wd, .int .i64 ht, .slice A0 cs.length c0]) (by rw [hb.block gc hltC]; exact hbC) 0
      simpa using this
    rcases List.mem_cons.1 hp with rfl | hp
    · have := Box_cells (w := W) (g := gh) (T' := 65) (cs := [.slice (some ad) l.length c1]) (by rw [hb.block gh hltH]; exact hbH) 0
      simpa using this
    rcases List.mem_cons.1 hp with rfl | hp
    · exact Kd.C_below hrC hb
    · rw [List.mem_singleton.1 hp]; exact Kd.C_below hrH hb) Try.func121 rfl rfl ?_
  show Cj Try.prog _ _ _ (bodyPost Try.prog Try.f121 Rr) _ _ _
  repeat (first
    | (apply gateO; first
      | refine Jl.yd (Y.mv rfl rfl) rfl rfl rfl ?_
      | refine Jl.yd (Y.asg rfl rfl) rfl rfl rfl ?_
      | refine Jl.yd (Y.ext rfl rfl rfl) rfl rfl rfl ?_
      | refine Jl.yd (Y.pickT rfl rfl rfl) rfl rfl rfl ?_
      | refine Jl.yd (Y.pickF rfl rfl rfl) rfl rfl rfl ?_
      | refine Jl.off rfl rfl rfl ?_
      | refine Jl.yd (Y.cmpF rfl rfl rfl rfl (by omega)) rfl rfl rfl ?_
      | refine Jl.yd (Y.cmpT rfl rfl rfl rfl (by omega)) rfl rfl rfl ?_
      | refine Jl.yd (Y.neqB rfl rfl rfl Try.underlying4) rfl rfl rfl ?_
      | refine Jl.yd (Y.cmp rfl rfl rfl rfl) rfl rfl rfl ?_
      | refine Jl.yd (Y.not rfl rfl) rfl rfl rfl ?_
      | refine Jl.yd (Y.arithN rfl rfl rfl rfl (by omega)) rfl rfl rfl ?_
      | refine Jl.yd (Y.arith64 rfl rfl rfl rfl) rfl rfl rfl ?_
      | refine Jl.yd (Y.loadF (us := [.int .i64 wd, .int .i64 ht, .slice A0 cs.length c0]) rfl rfl agg26 (by repeat (first | exact .head _ | refine .tail _ ?_)) (by rfl)) rfl rfl rfl ?_
      | refine Jl.yd (Y.loadF1 (us := [.slice (some ad) l.length c1]) rfl rfl sc65 (by repeat (first | exact .head _ | refine .tail _ ?_)) rfl) rfl rfl rfl ?_
      | refine Jl.yd (Y.idx rfl rfl rfl el65 (by omega) (by omega)) rfl rfl rfl ?_
      | refine Jl.yd (Y.loadK z76 [.int .i64 x.f0, .int .i64 x.f1, .int .i64 x.f2, .int .i64 x.f3] rfl rfl agg76 (by repeat (first | exact .head _ | refine .tail _ ?_)) ((i : Int)) (by omega) (by omega) (by rfl) (fun w cs h => (k76_open h).trans hux) (by rfl)) rfl rfl rfl ?_
      | refine Jl.yd (Y.loadK z76 [.int .i64 y.f0, .int .i64 y.f1, .int .i64 y.f2, .int .i64 y.f3] rfl rfl agg76 (by repeat (first | exact .head _ | refine .tail _ ?_)) ((k : Int)) (by omega) (by omega) (by rfl) (fun w cs h => (k76_open h).trans huy) (by rfl)) rfl rfl rfl ?_
      | refine Jl.call1 (v := .int .i64 (mm wd cs x)) rfl rfl rfl rfl en122 rfl (fun w hW => by with_reducible exact minutes hg hxo A0 c0 w (hW.fact (p := (fun W => Kd.C (Kd.int .i64) W A0 cs.length cs)) (by repeat (first | exact memH | refine memT ?_))) hc) ?_
      | refine Jl.call1 (v := .int .i64 (mm wd cs y)) rfl rfl rfl rfl en122 rfl (fun w hW => by with_reducible exact minutes hg hyo A0 c0 w (hW.fact (p := (fun W => Kd.C (Kd.int .i64) W A0 cs.length cs)) (by repeat (first | exact memH | refine memT ?_))) hc) ?_
      | refine Jl.call1 (v := .int .i64 (cmpI (mm wd cs x) (mm wd cs y))) rfl rfl rfl rfl en85 rfl (fun w hW => (cmp_Compare_int.calls (mm wd cs x) (mm wd cs y) (cmpI (mm wd cs x) (mm wd cs y)) w (cmp_f _ _)).mono (fun _ _ h => ⟨h.1, h.2.below⟩)) ?_
      | refine Jl.splitG rfl rfl (fun h => ?_) (fun h => ?_))
    | (apply gateE; first
      | refine Jl.nil (Ej.go ?_ (fun _ _ h => h))
      | (refine Jl.nil (Ej.back (fun _ _ h => h) (by repeat (first | exact .refl | apply DropTo.tail)) ?_); repeat (first | exact trivial | refine ⟨rfl, ?_⟩)))
    | (apply gateC; first
      | refine Cj.regionD rfl (mkD [0, 1, 2, 3, 4, 5, 6, 7, 8, 9, 13] []) [] [0, 1, 2, 3, 4, 6, 7, 8, 9, 10, 5, 11, 12, 13] mixed (by decide +kernel) ?_
      | refine Cj.ret rfl (Ej.out1 (P := Try.prog) (fn := Try.f121) (R := Rr) (fun _ _ h => h) rfl rfl (fun w' hW => ⟨rfl, hW.below⟩))
      | refine Cj.condF rfl rfl (Cj.skip rfl (Ej.go ?_ (fun _ _ h => h)))
      | (refine Cj.condF rfl rfl (Cj.skip rfl (Ej.back (fun _ _ h => h) (by repeat (first | exact .refl | apply DropTo.tail)) ?_)); repeat (first | exact trivial | refine ⟨rfl, ?_⟩))
      | refine Cj.condF rfl rfl ?_
      | refine Cj.condT rfl rfl ?_
      | refine Cj.exit rfl (Ej.go ?_ (fun _ _ h => h))
      | refine Cj.cond rfl rfl (fun h => ?_) (fun h => ?_)
      | refine Cj.skip rfl (Ej.go ?_ (fun _ _ h => h))
      | (refine Cj.skip rfl (Ej.back (fun _ _ h => h) (by repeat (first | exact .refl | apply DropTo.tail)) ?_); repeat (first | exact trivial | refine ⟨rfl, ?_⟩))
      | refine Cj.seq rfl ?_
      | refine Cj.region rfl ?_))
def encI (a : Int) : List Value := [.int .i64 a]
def decI : List Value → Int
  | [.int _ a] => a
  | _ => 0
theorem rowI {w : World} {A : Nat → Prop} {v : Value} {xs : List Int} : (Go.Proofs.YtkglpfdoefdhdaaW.SL.Item.row KI 3 0 v xs).p w A ↔ (Go.Proofs.YtkglpfdoefdhdaaW.SL.Item.row (Kd.raw 1) 3 0 v (xs.map encI)).p w A := row_raw (enc := encI) rfl (fun _ _ _ _ _ => Iff.rfl) (fun _ => rfl) (fun x u hu => by rw [List.mem_singleton.1 hu]; rfl)
theorem cmp_lt (a b : Int) : decide (cmpI a b < 0) = decide (a < b) := by
  unfold cmpI
  split
  · rename_i h; simp [h]
  · rename_i h
    split <;> simp <;> omega
/-- The indices are brought into the order of their minutes. -/
theorem sort_ {wd : Int} {cs : List Int} {l : List S76} (lb : Array Value) (n : Nat) (hn : n ≤ 12) (w : World) (A : Nat → Prop) (h c : Nat) (hA : (Go.Proofs.YtkglpfdoefdhdaaW.SL.Item.row KI 3 0 (.slice (some ⟨h, 0, none⟩) (rng n).length c) (rng n)).p w A)
    (hC : ∀ W, Aft A w W → ∀ i k : Nat, i < n → k < n → Calls Try.prog 121 (#[.int .i64 (i : Int), .int .i64 (k : Int)] ++ lb) W fun e w' => e = .returned (.int .i64 (cmpI (mm wd cs (nth l i z76)) (mm wd cs (nth l k z76)))) ∧ Below W.heap.size W w') :
    Calls Try.prog 83 #[.slice (some ⟨h, 0, none⟩) (rng n).length c, .func (.func 121) #[] lb] w fun e w' => e = .returned (.tuple #[]) ∧ ∃ A', (Go.Proofs.YtkglpfdoefdhdaaW.SL.Item.row KI 3 0 (.slice (some ⟨h, 0, none⟩) (rng n).length c) (ordL wd cs l n)).p w' A' ∧ (∀ k, A' k → k < w.heap.size → A k) ∧ Aft A w w' := by
  have h0 := rowI.1 hA
  have hlm : ((rng n).map encI).length = (rng n).length := List.length_map ..
  rw [← hlm] at h0 ⊢
  refine (Ins165.sortS 121 lb en121 (fun u v => cmpI (mm wd cs (nth l (decI u).toNat z76)) (mm wd cs (nth l (decI v).toNat z76))) w A h c ((rng n).map encI) h0 (fun W hW u v hu hv => ?_) (by rw [hlm, rng_len]; exact hn)).mono ?_
  · obtain ⟨a, ha, rfl⟩ := List.mem_map.1 hu
    obtain ⟨b, hb, rfl⟩ := List.mem_map.1 hv
    obtain ⟨i, hi, rfl⟩ := rng_mem ha
    obtain ⟨k, hk, rfl⟩ := rng_mem hb
    have := hC W hW i k hi hk
    simpa [decI, encI, hd1] using this
  · rintro e w' ⟨rfl, A', h1, h2, h3⟩
    refine ⟨rfl, A', rowI.2 ?_, h2, h3⟩
    rw [isort_map encI (lt := ltM wd cs l) (lt' := Ins165.ltc (fun u v => cmpI (mm wd cs (nth l (decI u).toNat z76)) (mm wd cs (nth l (decI v).toNat z76)))) (fun x y _ _ => cmp_lt _ _)] at h1
    exact h1
set_option maxHeartbeats 4000000 in
/-- MendOrder at holes that are none. -/
theorem iNo {wd ht : Int} {cs : List Int} {l : List S76} (A0 : Option Addr) (c0 : Nat) (A1 : Option Addr) (c1 : Nat) (w : World) (hrC : Kd.C (Kd.int .i64) w A0 cs.length cs) (hc : cs.length ≤ c0) (hrH : Kd.C k76 w A1 l.length l) (hcl : l.length ≤ c1) (hlb : l.length ≤ 1048576) (hg : goodH wd ht cs l = false) : Calls Try.prog 54 #[.agg #[.int .i64 wd, .int .i64 ht, .slice A0 cs.length c0], .slice A1 l.length c1] w fun e w' => ∃ v, e = .returned (.tuple #[v, .bool false]) ∧ (Kd.int .i64).R 3 w' w.heap.size (fun _ => True) v [] ∧ Below w.heap.size w w' := by
  obtain ⟨kk, hk⟩ := (iHoles wd ht cs l hlb).rounds
  rw [hg] at hk
  let Rr : Ending → World → Prop := fun e w' => ∃ v, e = .returned (.tuple #[v, .bool false]) ∧ (Kd.int .i64).R 3 w' w.heap.size (fun _ => True) v [] ∧ Below w.heap.size w w'
  refine enterW (args := [.agg #[.int .i64 wd, .int .i64 ht, .slice A0 cs.length c0], .slice A1 l.length c1]) [(fun W => Kd.C (Kd.int .i64) W A0 cs.length cs), (fun W => Kd.C k76 W A1 l.length l)] (fun p hp W hb => by
    rcases List.mem_cons.1 hp with rfl | hp
    · exact Kd.C_below hrC hb
    · rw [List.mem_singleton.1 hp]; exact Kd.C_below hrH hb) Try.func54 rfl rfl ?_
  show Cj Try.prog _ _ _ (bodyPost Try.prog Try.f54 Rr) _ _ _
  repeat (first
    | (apply gateO; first
      | refine Jl.yd (Y.mv rfl rfl) rfl rfl rfl ?_
      | refine Jl.yd (Y.asg rfl rfl) rfl rfl rfl ?_
      | refine Jl.yd (Y.ext rfl rfl rfl) rfl rfl rfl ?_
      | refine Jl.yd (Y.pickT rfl rfl rfl) rfl rfl rfl ?_
      | refine Jl.yd (Y.pickF rfl rfl rfl) rfl rfl rfl ?_
      | refine Jl.off rfl rfl rfl ?_
      | refine Jl.yd (Y.cmpF rfl rfl rfl rfl (by omega)) rfl rfl rfl ?_
      | refine Jl.yd (Y.cmpT rfl rfl rfl rfl (by omega)) rfl rfl rfl ?_
      | refine Jl.yd (Y.neqB rfl rfl rfl Try.underlying4) rfl rfl rfl ?_
      | refine Jl.yd (Y.cmp rfl rfl rfl rfl) rfl rfl rfl ?_
      | refine Jl.yd (Y.not rfl rfl) rfl rfl rfl ?_
      | refine Jl.yd (Y.arithN rfl rfl rfl rfl (by omega)) rfl rfl rfl ?_
      | refine Jl.yd (Y.arith64 rfl rfl rfl rfl) rfl rfl rfl ?_
      | refine Jl.yd (Y.loadA rfl rfl agg26 (by repeat (first | exact .head _ | refine .tail _ ?_)) (by rfl)) rfl rfl rfl ?_
      | refine Jl.yd (Y.load1 rfl rfl sc65 (by repeat (first | exact .head _ | refine .tail _ ?_)) (by rfl)) rfl rfl rfl ?_
      | refine Jl.yd (Y.lenS Try.underlying65 rfl rfl rfl) rfl rfl rfl ?_
      | refine Jl.yd (Y.lenS Try.underlying24 rfl rfl rfl) rfl rfl rfl ?_
      | refine Jl.box (zs := [.int .i64 wd, .int .i64 ht, .slice A0 cs.length c0]) rfl rfl rfl rfl rfl (by rfl) (fun gc => ?_)
      | refine Jl.box (zs := [.slice A1 l.length c1]) rfl rfl rfl rfl rfl (by rfl) (fun gh => ?_)
      | refine Jl.call1 (v := .bool false) rfl rfl rfl rfl en63 rfl (fun w hW => by with_reducible exact impl_AreHoles.calls kk wd ht A0 c0 cs A1 c1 l false w (hW.fact (p := (fun W => Kd.C (Kd.int .i64) W A0 cs.length cs)) (by repeat (first | exact memH | refine memT ?_))) hc (hW.fact (p := (fun W => Kd.C k76 W A1 l.length l)) (by repeat (first | exact memH | refine memT ?_))) hcl hk) ?_
      | refine Jl.splitG rfl rfl (fun h => ?_) (fun h => ?_))
    | (apply gateE; first
      | refine Jl.nil (Ej.go ?_ (fun _ _ h => h))
      | (refine Jl.nil (Ej.back (fun _ _ h => h) (by repeat (first | exact .refl | apply DropTo.tail)) ?_); repeat (first | exact trivial | refine ⟨rfl, ?_⟩)))
    | (apply gateC; first
      | refine Cj.ret rfl (Ej.out2 (P := Try.prog) (fn := Try.f54) (R := Rr) (fun _ _ h => h) rfl rfl rfl (fun w' hW => ⟨_, rfl, Kd.R_nil _ _ _ _ _, hW.below⟩))
      | refine Cj.condF rfl rfl (Cj.skip rfl (Ej.go ?_ (fun _ _ h => h)))
      | (refine Cj.condF rfl rfl (Cj.skip rfl (Ej.back (fun _ _ h => h) (by repeat (first | exact .refl | apply DropTo.tail)) ?_)); repeat (first | exact trivial | refine ⟨rfl, ?_⟩))
      | refine Cj.condF rfl rfl ?_
      | refine Cj.condT rfl rfl ?_
      | refine Cj.exit rfl (Ej.go ?_ (fun _ _ h => h))
      | refine Cj.cond rfl rfl (fun h => ?_) (fun h => ?_)
      | refine Cj.skip rfl (Ej.go ?_ (fun _ _ h => h))
      | (refine Cj.skip rfl (Ej.back (fun _ _ h => h) (by repeat (first | exact .refl | apply DropTo.tail)) ?_); repeat (first | exact trivial | refine ⟨rfl, ?_⟩))
      | refine Cj.seq rfl ?_
      | refine Cj.region rfl ?_))
set_option maxHeartbeats 8000000 in
/-- MendOrder at holes. -/
theorem iYes {wd ht : Int} {cs : List Int} {l : List S76} (A0 : Option Addr) (c0 : Nat) (A1 : Option Addr) (c1 : Nat) (w : World) (hrC : Kd.C (Kd.int .i64) w A0 cs.length cs) (hc : cs.length ≤ c0) (hrH : Kd.C k76 w A1 l.length l) (hcl : l.length ≤ c1) (hlb : l.length ≤ 1048576) (hg : goodH wd ht cs l = true) : Calls Try.prog 54 #[.agg #[.int .i64 wd, .int .i64 ht, .slice A0 cs.length c0], .slice A1 l.length c1] w fun e w' => ∃ v, e = .returned (.tuple #[v, .bool true]) ∧ (Kd.int .i64).R 3 w' w.heap.size (fun _ => True) v (ordL wd cs l l.length) ∧ Below w.heap.size w w' := by
  obtain ⟨kk, hk⟩ := (iHoles wd ht cs l hlb).rounds
  rw [hg] at hk
  obtain ⟨hg', hl8, ho⟩ := goodHole hg
  let Rr : Ending → World → Prop := fun e w' => ∃ v, e = .returned (.tuple #[v, .bool true]) ∧ (Kd.int .i64).R 3 w' w.heap.size (fun _ => True) v (ordL wd cs l l.length) ∧ Below w.heap.size w w'
  refine enterW (args := [.agg #[.int .i64 wd, .int .i64 ht, .slice A0 cs.length c0], .slice A1 l.length c1]) [(fun W => Kd.C (Kd.int .i64) W A0 cs.length cs), (fun W => Kd.C k76 W A1 l.length l)] (fun p hp W hb => by
    rcases List.mem_cons.1 hp with rfl | hp
    · exact Kd.C_below hrC hb
    · rw [List.mem_singleton.1 hp]; exact Kd.C_below hrH hb) Try.func54 rfl rfl ?_
  show Cj Try.prog _ _ _ (bodyPost Try.prog Try.f54 Rr) _ _ _
  repeat (first
    | (apply gateO; first
      | refine Jl.yd (Y.mv rfl rfl) rfl rfl rfl ?_
      | refine Jl.yd (Y.asg rfl rfl) rfl rfl rfl ?_
      | refine Jl.yd (Y.ext rfl rfl rfl) rfl rfl rfl ?_
      | refine Jl.yd (Y.pickT rfl rfl rfl) rfl rfl rfl ?_
      | refine Jl.yd (Y.pickF rfl rfl rfl) rfl rfl rfl ?_
      | refine Jl.off rfl rfl rfl ?_
      | refine Jl.yd (Y.cmpF rfl rfl rfl rfl (by omega)) rfl rfl rfl ?_
      | refine Jl.yd (Y.cmpT rfl rfl rfl rfl (by omega)) rfl rfl rfl ?_
      | refine Jl.yd (Y.neqB rfl rfl rfl Try.underlying4) rfl rfl rfl ?_
      | refine Jl.yd (Y.cmp rfl rfl rfl rfl) rfl rfl rfl ?_
      | refine Jl.yd (Y.not rfl rfl) rfl rfl rfl ?_
      | refine Jl.yd (Y.arithN rfl rfl rfl rfl (by omega)) rfl rfl rfl ?_
      | refine Jl.yd (Y.arith64 rfl rfl rfl rfl) rfl rfl rfl ?_
      | refine Jl.yd (Y.loadA rfl rfl agg26 (by repeat (first | exact .head _ | refine .tail _ ?_)) (by rfl)) rfl rfl rfl ?_
      | refine Jl.yd (Y.load1 rfl rfl sc65 (by repeat (first | exact .head _ | refine .tail _ ?_)) (by rfl)) rfl rfl rfl ?_
      | refine Jl.yd (Y.lenS Try.underlying65 rfl rfl rfl) rfl rfl rfl ?_
      | refine Jl.yd (Y.lenS Try.underlying24 rfl rfl rfl) rfl rfl rfl ?_
      | refine Jl.box (zs := [.int .i64 wd, .int .i64 ht, .slice A0 cs.length c0]) rfl rfl rfl rfl rfl (by rfl) (fun gc => ?_)
      | refine Jl.box (zs := [.slice A1 l.length c1]) rfl rfl rfl rfl rfl (by rfl) (fun gh => ?_)
      | refine Jl.call1 (v := .bool true) rfl rfl rfl rfl en63 rfl (fun w hW => by with_reducible exact impl_AreHoles.calls kk wd ht A0 c0 cs A1 c1 l true w (hW.fact (p := (fun W => Kd.C (Kd.int .i64) W A0 cs.length cs)) (by repeat (first | exact memH | refine memT ?_))) hc (hW.fact (p := (fun W => Kd.C k76 W A1 l.length l)) (by repeat (first | exact memH | refine memT ?_))) hcl hk) ?_
      | refine Jl.lit0 KI rfl rfl rfl rfl el24 (fun g0 => ?_)
      | refine Jl.splitG rfl rfl (fun h => ?_) (fun h => ?_))
    | (apply gateE; first
      | refine Jl.nil (Ej.go ?_ (fun _ _ h => h))
      | (refine Jl.nil (Ej.back (fun _ _ h => h) (by repeat (first | exact .refl | apply DropTo.tail)) ?_); repeat (first | exact trivial | refine ⟨rfl, ?_⟩)))
    | (apply gateC; first
      | refine Cj.block rfl ?_
      | refine Cj.condF rfl rfl (Cj.skip rfl (Ej.go ?_ (fun _ _ h => h)))
      | (refine Cj.condF rfl rfl (Cj.skip rfl (Ej.back (fun _ _ h => h) (by repeat (first | exact .refl | apply DropTo.tail)) ?_)); repeat (first | exact trivial | refine ⟨rfl, ?_⟩))
      | refine Cj.condF rfl rfl ?_
      | refine Cj.condT rfl rfl ?_
      | refine Cj.exit rfl (Ej.go ?_ (fun _ _ h => h))
      | refine Cj.cond rfl rfl (fun h => ?_) (fun h => ?_)
      | refine Cj.skip rfl (Ej.go ?_ (fun _ _ h => h))
      | (refine Cj.skip rfl (Ej.back (fun _ _ h => h) (by repeat (first | exact .refl | apply DropTo.tail)) ?_); repeat (first | exact trivial | refine ⟨rfl, ?_⟩))
      | refine Cj.seq rfl ?_
      | refine Cj.region rfl ?_))
  refine Cj.loopP (ι := Nat × Option Addr × Nat) (fun q => q.1 ≤ l.length ∧ (q.1 = 0 → q.2.1 = some ⟨g0, 0, none⟩) ∧ (rng q.1).length ≤ q.2.2) (fun q => [(2, .pointer (some ⟨gc, 0, none⟩)), (3, .pointer (some ⟨gh, 0, none⟩)), (6, .slice q.2.1 (rng q.1).length q.2.2), (14, .int .i64 (l.length : Int)), (15, .int .i64 (q.1 : Int))]) (fun q => [.row KI 3 0 (.slice q.2.1 (rng q.1).length q.2.2) (rng q.1), .box gc 26 [.int .i64 wd, .int .i64 ht, .slice A0 cs.length c0], .box gh 65 [.slice A1 l.length c1]]) (fun _ => [(fun W => Kd.C (Kd.int .i64) W A0 cs.length cs), (fun W => Kd.C k76 W A1 l.length l)]) (fun q => l.length - q.1) rfl (0, some ⟨g0, 0, none⟩, 0) ⟨Nat.zero_le _, fun _ => rfl, Nat.le_refl _⟩ ⟨rfl, rfl, rfl, rfl, rfl, trivial⟩ (by repeat (first | exact .nil | refine Pick.cons (by repeat (first | exact .z | apply OutAt.s)) ?_)) (fun p hp => hp) (fun q hq => ?_)
  obtain ⟨i, A, c⟩ := q
  dsimp only at hq ⊢
  obtain ⟨hi, hA0, hic⟩ := hq
  by_cases hlt : i < l.length
  · repeat (first
    | (apply gateO; first
      | refine Jl.yd (Y.mv rfl rfl) rfl rfl rfl ?_
      | refine Jl.yd (Y.asg rfl rfl) rfl rfl rfl ?_
      | refine Jl.yd (Y.ext rfl rfl rfl) rfl rfl rfl ?_
      | refine Jl.yd (Y.pickT rfl rfl rfl) rfl rfl rfl ?_
      | refine Jl.yd (Y.pickF rfl rfl rfl) rfl rfl rfl ?_
      | refine Jl.off rfl rfl rfl ?_
      | refine Jl.yd (Y.cmpF rfl rfl rfl rfl (by omega)) rfl rfl rfl ?_
      | refine Jl.yd (Y.cmpT rfl rfl rfl rfl (by omega)) rfl rfl rfl ?_
      | refine Jl.yd (Y.neqB rfl rfl rfl Try.underlying4) rfl rfl rfl ?_
      | refine Jl.yd (Y.cmp rfl rfl rfl rfl) rfl rfl rfl ?_
      | refine Jl.yd (Y.not rfl rfl) rfl rfl rfl ?_
      | refine Jl.yd (Y.arithN rfl rfl rfl rfl (by omega)) rfl rfl rfl ?_
      | refine Jl.yd (Y.arith64 rfl rfl rfl rfl) rfl rfl rfl ?_
      | refine Jl.yd (Y.loadA rfl rfl agg26 (by repeat (first | exact .head _ | refine .tail _ ?_)) (by rfl)) rfl rfl rfl ?_
      | refine Jl.yd (Y.load1 rfl rfl sc65 (by repeat (first | exact .head _ | refine .tail _ ?_)) (by rfl)) rfl rfl rfl ?_
      | refine Jl.yd (Y.lenS Try.underlying65 rfl rfl rfl) rfl rfl rfl ?_
      | refine Jl.yd (Y.lenS Try.underlying24 rfl rfl rfl) rfl rfl rfl ?_
      | refine Jl.lit1 rfl rfl rfl rfl rfl el24 zero3 rfl (fun g1 => ?_)
      | refine Jl.app (dk := KI) (xs := rng i) (i : Int) (fun _ => False) rfl rfl rfl rfl rfl rfl ap24 (by repeat (first | exact .head _ | refine .tail _ ?_)) rfl (fun w => rfl) (fun u hu => by rw [List.mem_singleton.1 hu]; rfl) (by repeat (first | exact .z | apply OutAt.s)) (by rw [rng_len]; omega) (by rw [rng_len]; omega) (fun A9 c9 h9 => ?_)
      | refine Jl.splitG rfl rfl (fun h => ?_) (fun h => ?_))
    | (apply gateE; first
      | refine Jl.nil (Ej.go ?_ (fun _ _ h => h))
      | (refine Jl.nil (Ej.back (fun _ _ h => h) (by repeat (first | exact .refl | apply DropTo.tail)) ?_); repeat (first | exact trivial | refine ⟨rfl, ?_⟩)))
    | (apply gateC; first
      | refine Cj.block rfl ?_
      | refine Cj.condF rfl rfl (Cj.skip rfl (Ej.go ?_ (fun _ _ h => h)))
      | (refine Cj.condF rfl rfl (Cj.skip rfl (Ej.back (fun _ _ h => h) (by repeat (first | exact .refl | apply DropTo.tail)) ?_)); repeat (first | exact trivial | refine ⟨rfl, ?_⟩))
      | refine Cj.condF rfl rfl ?_
      | refine Cj.condT rfl rfl ?_
      | refine Cj.exit rfl (Ej.go ?_ (fun _ _ h => h))
      | refine Cj.cond rfl rfl (fun h => ?_) (fun h => ?_)
      | refine Cj.skip rfl (Ej.go ?_ (fun _ _ h => h))
      | (refine Cj.skip rfl (Ej.back (fun _ _ h => h) (by repeat (first | exact .refl | apply DropTo.tail)) ?_); repeat (first | exact trivial | refine ⟨rfl, ?_⟩))
      | refine Cj.seq rfl ?_
      | refine Cj.region rfl ?_))
    refine Jl.nil (Ej.cutP (ι := Nat × Option Addr × Nat) _ _ _ _ (fun _ _ h => h) (i + 1, A9, c9) ⟨⟨by dsimp only; omega, fun h => absurd h (by dsimp only; omega), by dsimp only; rw [rng_succ, List.length_append]; exact h9⟩, by dsimp only; omega⟩ ⟨rfl, rfl, by dsimp only; rw [rng_succ]; rfl, rfl, rfl, trivial⟩ (by dsimp only; rw [rng_succ]; exact (by repeat (first | exact .nil | refine Pick.cons (by repeat (first | exact .z | apply OutAt.s)) ?_))) (fun p hp => hp))
  · obtain rfl : i = l.length := by omega
    refine Cj.ws (ι := Nat) (fun hd => A = some ⟨hd, 0, none⟩) (fun _ => [.row KI 3 0 (.slice A (rng l.length).length c) (rng l.length), .box gc 26 [.int .i64 wd, .int .i64 ht, .slice A0 cs.length c0], .box gh 65 [.slice A1 l.length c1]]) (fun _ => [(fun W => Kd.C (Kd.int .i64) W A0 cs.length cs), (fun W => Kd.C k76 W A1 l.length l)]) (fun w' hW => by
      by_cases h0 : l.length = 0
      · exact ⟨g0, hA0 h0, hW⟩
      obtain ⟨S, hR, _⟩ := hW.item (i := .row KI 3 0 (.slice A (rng l.length).length c) (rng l.length)) memH
      rcases row_form hR with ⟨c, e, e0⟩ | ⟨hd, c, e⟩
      · have := rng_len l.length; rw [e0] at this; exact absurd this.symm h0
      · injection e with e1
        exact ⟨hd, e1, hW⟩) (fun hd hA => ?_)
    subst hA
    repeat (first
    | (apply gateO; first
      | refine Jl.yd (Y.mv rfl rfl) rfl rfl rfl ?_
      | refine Jl.yd (Y.asg rfl rfl) rfl rfl rfl ?_
      | refine Jl.yd (Y.ext rfl rfl rfl) rfl rfl rfl ?_
      | refine Jl.yd (Y.pickT rfl rfl rfl) rfl rfl rfl ?_
      | refine Jl.yd (Y.pickF rfl rfl rfl) rfl rfl rfl ?_
      | refine Jl.off rfl rfl rfl ?_
      | refine Jl.yd (Y.cmpF rfl rfl rfl rfl (by omega)) rfl rfl rfl ?_
      | refine Jl.yd (Y.cmpT rfl rfl rfl rfl (by omega)) rfl rfl rfl ?_
      | refine Jl.yd (Y.neqB rfl rfl rfl Try.underlying4) rfl rfl rfl ?_
      | refine Jl.yd (Y.cmp rfl rfl rfl rfl) rfl rfl rfl ?_
      | refine Jl.yd (Y.not rfl rfl) rfl rfl rfl ?_
      | refine Jl.yd (Y.arithN rfl rfl rfl rfl (by omega)) rfl rfl rfl ?_
      | refine Jl.yd (Y.arith64 rfl rfl rfl rfl) rfl rfl rfl ?_
      | refine Jl.yd (Y.loadA rfl rfl agg26 (by repeat (first | exact .head _ | refine .tail _ ?_)) (by rfl)) rfl rfl rfl ?_
      | refine Jl.yd (Y.load1 rfl rfl sc65 (by repeat (first | exact .head _ | refine .tail _ ?_)) (by rfl)) rfl rfl rfl ?_
      | refine Jl.yd (Y.lenS Try.underlying65 rfl rfl rfl) rfl rfl rfl ?_
      | refine Jl.yd (Y.lenS Try.underlying24 rfl rfl rfl) rfl rfl rfl ?_
      | refine Jl.yd (Y.mkFn2 rfl rfl rfl) rfl rfl rfl ?_
      | refine Jl.callX (ι := Unit) (fun _ => True) (fun _ => .tuple #[]) (.row KI 3 0 (.slice (some ⟨hd, 0, none⟩) (rng l.length).length c) (rng l.length)) (fun _ => .row KI 3 0 (.slice (some ⟨hd, 0, none⟩) (rng l.length).length c) (ordL wd cs l l.length)) rfl rfl rfl rfl en83 rfl (by repeat (first | exact .z | apply OutAt.s)) (fun w A hA hB => (sort_ (wd := wd) (cs := cs) (l := l) #[.pointer (some ⟨gc, 0, none⟩), .pointer (some ⟨gh, 0, none⟩)] l.length (by omega) w A hd c hA (fun W hW i k hi hk => clo hg' ho A0 c0 A1 c1 gc gh W hc (Box_at (hB W hW) (by repeat (first | exact memH | refine memT ?_))) (Box_at (hB W hW) (by repeat (first | exact memH | refine memT ?_))) ((hB W hW).fact (p := (fun W => Kd.C (Kd.int .i64) W A0 cs.length cs)) (by repeat (first | exact memH | refine memT ?_))) ((hB W hW).fact (p := (fun W => Kd.C k76 W A1 l.length l)) (by repeat (first | exact memH | refine memT ?_))) i k hi hk (by omega))).mono (fun e w' hh => ⟨(), trivial, hh.1, hh.2⟩)) (fun _ _ => ?_)
      | refine Jl.splitG rfl rfl (fun h => ?_) (fun h => ?_))
    | (apply gateE; first
      | refine Jl.nil (Ej.go ?_ (fun _ _ h => h))
      | (refine Jl.nil (Ej.back (fun _ _ h => h) (by repeat (first | exact .refl | apply DropTo.tail)) ?_); repeat (first | exact trivial | refine ⟨rfl, ?_⟩)))
    | (apply gateC; first
      | refine Cj.block rfl ?_
      | refine Cj.ret rfl (Ej.out2 (P := Try.prog) (fn := Try.f54) (R := Rr) (fun _ _ h => h) rfl rfl rfl (fun w' hW => ⟨_, rfl, outI hW (by repeat (first | exact .nil | refine Pick.cons (by repeat (first | exact .z | apply OutAt.s)) ?_)), hW.below⟩))
      | refine Cj.condF rfl rfl (Cj.skip rfl (Ej.go ?_ (fun _ _ h => h)))
      | (refine Cj.condF rfl rfl (Cj.skip rfl (Ej.back (fun _ _ h => h) (by repeat (first | exact .refl | apply DropTo.tail)) ?_)); repeat (first | exact trivial | refine ⟨rfl, ?_⟩))
      | refine Cj.condF rfl rfl ?_
      | refine Cj.condT rfl rfl ?_
      | refine Cj.exit rfl (Ej.go ?_ (fun _ _ h => h))
      | refine Cj.cond rfl rfl (fun h => ?_) (fun h => ?_)
      | refine Cj.skip rfl (Ej.go ?_ (fun _ _ h => h))
      | (refine Cj.skip rfl (Ej.back (fun _ _ h => h) (by repeat (first | exact .refl | apply DropTo.tail)) ?_); repeat (first | exact trivial | refine ⟨rfl, ?_⟩))
      | refine Cj.seq rfl ?_
      | refine Cj.region rfl ?_))
end MO
end Go.Proofs.Ytkglpfdoefdhdaa.WK

namespace Go.Proofs.Ytkglpfdoefdhdaa.Q
open Go.RowKit Go.Proofs.YtkglpfdoefdhdaaW.PrintWords Go.Proofs.YtkglpfdoefdhdaaW.PrintLast Go.Proofs.YtkglpfdoefdhdaaW.PrintMore
attribute [local go_sem] max2_int min2_int max_two min_two max_three min_three max_four min_four
set_option linter.unusedVariables false
set_option linter.unusedSimpArgs false

/-! ### laws_heldHoleS: function 52 -/
def laws_heldHoleS.l0 : Nat → List (S76) → Int → Int → Option (Int)
 | 0, _, _, _ => none
 | k + 1, x0, x1, x5 => if x5 < (x0.length : Int) then (if 0 ≤ x5 then (if ((rd_T76 x0 x5).f0) = x1 then (if ((rd_T76 x0 x5).f1) = (wrap64 (x1 + 1)) then (if ((rd_T76 x0 x5).f2) = (wrap64 ((wrap64 (x1 + 1)) + 1)) then (if ((rd_T76 x0 x5).f3) = (wrap64 ((wrap64 ((wrap64 (x1 + 1)) + 1)) + 1)) then (laws_heldHoleS.l0 k x0 (wrap64 ((wrap64 ((wrap64 ((wrap64 (x1 + 1)) + 1)) + 1)) + 1)) (wrap64 (x5 + 1))) else (some (-1))) else (some (-1))) else (some (-1))) else (some (-1))) else (none)) else (some x1)
def laws_heldHoleS.f (k : Nat) (l0 : List (S76)) (a1 : Int) : Option (Int) := laws_heldHoleS.l0 k l0 a1 0
set_option maxHeartbeats 8000000 in
set_option maxRecDepth 100000 in
theorem laws_heldHoleS.calls (k : Nat) (A0 : Option Addr) (c0 : Nat) (l0 : List (S76)) (a1 : Int) (r : Int) (w : World) (hr0 : Kd.C k76 w A0 l0.length l0) (hc0 : l0.length ≤ c0) (h : laws_heldHoleS.f k l0 a1 = some r) :
  Calls Try.prog 52 #[.slice A0 l0.length c0, .int .i64 a1] w fun e w' => e = .returned (.int .i64 r) ∧ Drawn0 w w' := by
 have HR0 := Aside0.mk hr0
 have HC0 := Aside0.mk hc0
 clear hr0 hc0
 have H : (laws_heldHoleS.l0 k l0 a1 0) = some r := h
 clear h
 have H' := Aside0.mk H
 clear H
 go_enter Try.func52, Try.ntmps52
 go_wp2
 go_loopg [1, 5] k (fun kq v1 v5 w' => ∃ (x1_1 : Int) (x5_1 : Int), v1 = .int .i64 x1_1 ∧ v5 = .int .i64 x5_1 ∧ Aside0 (laws_heldHoleS.l0 kq l0 x1_1 x5_1 = some r) ∧ Aside0 (kq ≤ k) ∧ Drawn0 w w')
 case atStart => exact ⟨(a1), (0), (by first | rfl | (simp; done) | (simp [*]; done)), (by first | rfl | (simp; done) | (simp [*]; done)), H', ⟨Nat.le_refl _⟩, by repeat (first | exact Drawn0.refl _ | apply Drawn0.step)⟩
 case round =>
  clear H'
  try clear p2
  obtain ⟨x1_1, x5_1, rfl, rfl, HA, HK1, ⟨m1, rfl⟩⟩ := hrel
  cases gk with
  | zero => exact absurd HA.out (by simp [laws_heldHoleS.l0])
  | succ k1 =>
   have H := HA.out
   clear HA
   simp only [laws_heldHoleS.l0] at H
   by_cases c3 : x5_1 < (l0.length : Int)
   ·rw [if_pos c3] at H
    have c3b0 : decide (x5_1 < (l0.length : Int)) = true := decide_eq_true c3
    clear c3
    by_cases c4 : 0 ≤ x5_1
    ·rw [if_pos c4] at H
     have c4b0 : decide (0 ≤ x5_1) = true := decide_eq_true c4
     clear c4
     by_cases c5 : ((rd_T76 l0 x5_1).f0) = x1_1
     ·rw [if_pos c5] at H
      have c5b0 : (((rd_T76 l0 x5_1).f0) == x1_1) = true := beq_iff_eq.mpr c5
      have c5b1 : (((rd_T76 l0 x5_1).f0) != x1_1) = false := bne_eq_false_iff_eq.mpr c5
      clear c5
      by_cases c6 : ((rd_T76 l0 x5_1).f1) = (wrap64 (x1_1 + 1))
      ·rw [if_pos c6] at H
       have c6b0 : (((rd_T76 l0 x5_1).f1) == (wrap64 (x1_1 + 1))) = true := beq_iff_eq.mpr c6
       have c6b1 : (((rd_T76 l0 x5_1).f1) != (wrap64 (x1_1 + 1))) = false := bne_eq_false_iff_eq.mpr c6
       clear c6
       by_cases c7 : ((rd_T76 l0 x5_1).f2) = (wrap64 ((wrap64 (x1_1 + 1)) + 1))
       ·rw [if_pos c7] at H
        have c7b0 : (((rd_T76 l0 x5_1).f2) == (wrap64 ((wrap64 (x1_1 + 1)) + 1))) = true := beq_iff_eq.mpr c7
        have c7b1 : (((rd_T76 l0 x5_1).f2) != (wrap64 ((wrap64 (x1_1 + 1)) + 1))) = false := bne_eq_false_iff_eq.mpr c7
        clear c7
        by_cases c8 : ((rd_T76 l0 x5_1).f3) = (wrap64 ((wrap64 ((wrap64 (x1_1 + 1)) + 1)) + 1))
        ·rw [if_pos c8] at H
         have c8b0 : (((rd_T76 l0 x5_1).f3) == (wrap64 ((wrap64 ((wrap64 (x1_1 + 1)) + 1)) + 1))) = true := beq_iff_eq.mpr c8
         have c8b1 : (((rd_T76 l0 x5_1).f3) != (wrap64 ((wrap64 ((wrap64 (x1_1 + 1)) + 1)) + 1))) = false := bne_eq_false_iff_eq.mpr c8
         clear c8
         have H' := Aside0.mk H
         clear H
         have p421 : 0 ≤ (x5_1 : Int) := of_decide_eq_true (by first | (with_reducible assumption) | assumption)
         have q421 : x5_1 < (l0.length : Int) := of_decide_eq_true (by first | (with_reducible assumption) | assumption)
         obtain ⟨ad421, e421, hx421_0, hx421_1, hx421_2, hx421_3⟩ := at_T76 HR0.out x5_1 p421 q421
         cases e421
         replace p421 := eq_true p421
         replace q421 := eq_true q421
         have p422 : 0 ≤ (x5_1 : Int) := of_decide_eq_true (by first | (with_reducible assumption) | assumption)
         have q422 : x5_1 < (l0.length : Int) := of_decide_eq_true (by first | (with_reducible assumption) | assumption)
         obtain ⟨ad422, e422, hx422_0, hx422_1, hx422_2, hx422_3⟩ := at_T76 HR0.out x5_1 p422 q422
         obtain rfl : ad421 = ad422 := (by injection e422)
         replace p422 := eq_true p422
         replace q422 := eq_true q422
         have p423 : 0 ≤ (x5_1 : Int) := of_decide_eq_true (by first | (with_reducible assumption) | assumption)
         have q423 : x5_1 < (l0.length : Int) := of_decide_eq_true (by first | (with_reducible assumption) | assumption)
         obtain ⟨ad423, e423, hx423_0, hx423_1, hx423_2, hx423_3⟩ := at_T76 HR0.out x5_1 p423 q423
         obtain rfl : ad421 = ad423 := (by injection e423)
         replace p423 := eq_true p423
         replace q423 := eq_true q423
         have p424 : 0 ≤ (x5_1 : Int) := of_decide_eq_true (by first | (with_reducible assumption) | assumption)
         have q424 : x5_1 < (l0.length : Int) := of_decide_eq_true (by first | (with_reducible assumption) | assumption)
         obtain ⟨ad424, e424, hx424_0, hx424_1, hx424_2, hx424_3⟩ := at_T76 HR0.out x5_1 p424 q424
         obtain rfl : ad421 = ad424 := (by injection e424)
         replace p424 := eq_true p424
         replace q424 := eq_true q424
         go_wp2
         go_roundg k1
         case measure => have := HK1.out; omega
         case rel => exact ⟨(wrap64 ((wrap64 ((wrap64 ((wrap64 (x1_1 + 1)) + 1)) + 1)) + 1)), (wrap64 (x5_1 + 1)), (by first | rfl | (simp; done) | (simp [*]; done)), (by first | rfl | (simp; done) | (simp [*]; done)), H', ⟨by have := HK1.out; omega⟩, by repeat (first | exact Drawn0.refl _ | apply Drawn0.step)⟩
        ·rw [if_neg c8] at H
         have c8b0 : (((rd_T76 l0 x5_1).f3) == (wrap64 ((wrap64 ((wrap64 (x1_1 + 1)) + 1)) + 1))) = false := beq_eq_false_iff_ne.mpr c8
         have c8b1 : (((rd_T76 l0 x5_1).f3) != (wrap64 ((wrap64 ((wrap64 (x1_1 + 1)) + 1)) + 1))) = true := bne_iff_ne.mpr c8
         obtain rfl := Option.some.inj H
         have p421 : 0 ≤ (x5_1 : Int) := of_decide_eq_true (by first | (with_reducible assumption) | assumption)
         have q421 : x5_1 < (l0.length : Int) := of_decide_eq_true (by first | (with_reducible assumption) | assumption)
         obtain ⟨ad421, e421, hx421_0, hx421_1, hx421_2, hx421_3⟩ := at_T76 HR0.out x5_1 p421 q421
         cases e421
         replace p421 := eq_true p421
         replace q421 := eq_true q421
         have p422 : 0 ≤ (x5_1 : Int) := of_decide_eq_true (by first | (with_reducible assumption) | assumption)
         have q422 : x5_1 < (l0.length : Int) := of_decide_eq_true (by first | (with_reducible assumption) | assumption)
         obtain ⟨ad422, e422, hx422_0, hx422_1, hx422_2, hx422_3⟩ := at_T76 HR0.out x5_1 p422 q422
         obtain rfl : ad421 = ad422 := (by injection e422)
         replace p422 := eq_true p422
         replace q422 := eq_true q422
         have p423 : 0 ≤ (x5_1 : Int) := of_decide_eq_true (by first | (with_reducible assumption) | assumption)
         have q423 : x5_1 < (l0.length : Int) := of_decide_eq_true (by first | (with_reducible assumption) | assumption)
         obtain ⟨ad423, e423, hx423_0, hx423_1, hx423_2, hx423_3⟩ := at_T76 HR0.out x5_1 p423 q423
         obtain rfl : ad421 = ad423 := (by injection e423)
         replace p423 := eq_true p423
         replace q423 := eq_true q423
         have p424 : 0 ≤ (x5_1 : Int) := of_decide_eq_true (by first | (with_reducible assumption) | assumption)
         have q424 : x5_1 < (l0.length : Int) := of_decide_eq_true (by first | (with_reducible assumption) | assumption)
         obtain ⟨ad424, e424, hx424_0, hx424_1, hx424_2, hx424_3⟩ := at_T76 HR0.out x5_1 p424 q424
         obtain rfl : ad421 = ad424 := (by injection e424)
         replace p424 := eq_true p424
         replace q424 := eq_true q424
         go_wp2
         go_ret
         exact ⟨by first | rfl | (simp; done) | (simp [*]; done), by repeat (first | exact Drawn0.refl _ | apply Drawn0.step)⟩
       ·rw [if_neg c7] at H
        have c7b0 : (((rd_T76 l0 x5_1).f2) == (wrap64 ((wrap64 (x1_1 + 1)) + 1))) = false := beq_eq_false_iff_ne.mpr c7
        have c7b1 : (((rd_T76 l0 x5_1).f2) != (wrap64 ((wrap64 (x1_1 + 1)) + 1))) = true := bne_iff_ne.mpr c7
        obtain rfl := Option.some.inj H
        have p421 : 0 ≤ (x5_1 : Int) := of_decide_eq_true (by first | (with_reducible assumption) | assumption)
        have q421 : x5_1 < (l0.length : Int) := of_decide_eq_true (by first | (with_reducible assumption) | assumption)
        obtain ⟨ad421, e421, hx421_0, hx421_1, hx421_2, hx421_3⟩ := at_T76 HR0.out x5_1 p421 q421
        cases e421
        replace p421 := eq_true p421
        replace q421 := eq_true q421
        have p422 : 0 ≤ (x5_1 : Int) := of_decide_eq_true (by first | (with_reducible assumption) | assumption)
        have q422 : x5_1 < (l0.length : Int) := of_decide_eq_true (by first | (with_reducible assumption) | assumption)
        obtain ⟨ad422, e422, hx422_0, hx422_1, hx422_2, hx422_3⟩ := at_T76 HR0.out x5_1 p422 q422
        obtain rfl : ad421 = ad422 := (by injection e422)
        replace p422 := eq_true p422
        replace q422 := eq_true q422
        have p423 : 0 ≤ (x5_1 : Int) := of_decide_eq_true (by first | (with_reducible assumption) | assumption)
        have q423 : x5_1 < (l0.length : Int) := of_decide_eq_true (by first | (with_reducible assumption) | assumption)
        obtain ⟨ad423, e423, hx423_0, hx423_1, hx423_2, hx423_3⟩ := at_T76 HR0.out x5_1 p423 q423
        obtain rfl : ad421 = ad423 := (by injection e423)
        replace p423 := eq_true p423
        replace q423 := eq_true q423
        go_wp2
        go_ret
        exact ⟨by first | rfl | (simp; done) | (simp [*]; done), by repeat (first | exact Drawn0.refl _ | apply Drawn0.step)⟩
      ·rw [if_neg c6] at H
       have c6b0 : (((rd_T76 l0 x5_1).f1) == (wrap64 (x1_1 + 1))) = false := beq_eq_false_iff_ne.mpr c6
       have c6b1 : (((rd_T76 l0 x5_1).f1) != (wrap64 (x1_1 + 1))) = true := bne_iff_ne.mpr c6
       obtain rfl := Option.some.inj H
       have p421 : 0 ≤ (x5_1 : Int) := of_decide_eq_true (by first | (with_reducible assumption) | assumption)
       have q421 : x5_1 < (l0.length : Int) := of_decide_eq_true (by first | (with_reducible assumption) | assumption)
       obtain ⟨ad421, e421, hx421_0, hx421_1, hx421_2, hx421_3⟩ := at_T76 HR0.out x5_1 p421 q421
       cases e421
       replace p421 := eq_true p421
       replace q421 := eq_true q421
       have p422 : 0 ≤ (x5_1 : Int) := of_decide_eq_true (by first | (with_reducible assumption) | assumption)
       have q422 : x5_1 < (l0.length : Int) := of_decide_eq_true (by first | (with_reducible assumption) | assumption)
       obtain ⟨ad422, e422, hx422_0, hx422_1, hx422_2, hx422_3⟩ := at_T76 HR0.out x5_1 p422 q422
       obtain rfl : ad421 = ad422 := (by injection e422)
       replace p422 := eq_true p422
       replace q422 := eq_true q422
       go_wp2
       go_ret
       exact ⟨by first | rfl | (simp; done) | (simp [*]; done), by repeat (first | exact Drawn0.refl _ | apply Drawn0.step)⟩
     ·rw [if_neg c5] at H
      have c5b0 : (((rd_T76 l0 x5_1).f0) == x1_1) = false := beq_eq_false_iff_ne.mpr c5
      have c5b1 : (((rd_T76 l0 x5_1).f0) != x1_1) = true := bne_iff_ne.mpr c5
      obtain rfl := Option.some.inj H
      have p421 : 0 ≤ (x5_1 : Int) := of_decide_eq_true (by first | (with_reducible assumption) | assumption)
      have q421 : x5_1 < (l0.length : Int) := of_decide_eq_true (by first | (with_reducible assumption) | assumption)
      obtain ⟨ad421, e421, hx421_0, hx421_1, hx421_2, hx421_3⟩ := at_T76 HR0.out x5_1 p421 q421
      cases e421
      replace p421 := eq_true p421
      replace q421 := eq_true q421
      go_wp2
      go_ret
      exact ⟨by first | rfl | (simp; done) | (simp [*]; done), by repeat (first | exact Drawn0.refl _ | apply Drawn0.step)⟩
    ·rw [if_neg c4] at H
     exact absurd H (by simp)
   ·rw [if_neg c3] at H
    have c3b0 : decide (x5_1 < (l0.length : Int)) = false := decide_eq_false c3
    clear c3
    obtain rfl := Option.some.inj H
    go_wp2
    go_ret
    exact ⟨by first | rfl | (simp; done) | (simp [*]; done), by repeat (first | exact Drawn0.refl _ | apply Drawn0.step)⟩

end Go.Proofs.Ytkglpfdoefdhdaa.Q

namespace Go.Proofs.Ytkglpfdoefdhdaa.WK
open Go Go.RowKit Go.Proofs.Ytkglpfdoefdhdaa.Q Go.Proofs.Ytkglpfdoefdhdaa.M Go.Proofs.YtkglpfdoefdhdaaW.PrintWords Go.Proofs.YtkglpfdoefdhdaaW.PrintLast Go.Proofs.YtkglpfdoefdhdaaW.Pl
open Go.Proofs.YtkglpfdoefdhdaaW.SL (goI insR isort snoc_ind isort_snoc sortI)
open Go.Proofs.Ytkglpfdoefdhdaa.M.MN (mm)
set_option linter.unusedSimpArgs false
set_option linter.unusedVariables false
namespace MQ
open MO (ltM rng ordL)
/-! Marks in the fields of holes. -/
def mkH (m : Int) : S76 := ⟨m, m + 1, m + 2, m + 3⟩
def marksH (n : Nat) : List S76 := (List.range n).map fun j : Nat => mkH ((4 * j + 1 : Nat) : Int)
theorem marksH_len (n : Nat) : (marksH n).length = n := by unfold marksH; simp
theorem marksH_nth (n i : Nat) (h : i < n) : nth (marksH n) i z76 = mkH ((4 * i + 1 : Nat) : Int) := by rw [nth_get (by rw [marksH_len]; exact h)]; unfold marksH; simp
theorem nthSet {l : List S76} {i : Nat} {v : S76} (h : i < l.length) : nth (l.set i v) i z76 = v := by rw [nth_get (by simpa using h)]; simp
theorem markOne (k : Nat) (a : List S76) (m i : Nat) (hi : i < a.length) (hm : m ≤ 4398046511104) (hib : i ≤ 1048576) : laws_markHoleS.l0 (k + 1) a (m : Int) (i : Int) = laws_markHoleS.l0 k (a.set i (mkH (m : Int))) ((m + 4 : Nat) : Int) ((i + 1 : Nat) : Int) := by
  have e1 : wrap64 ((m : Int) + 1) = (m : Int) + 1 := w64 (by omega)
  have e2 : wrap64 ((m : Int) + 1 + 1) = (m : Int) + 2 := by rw [w64 (by omega)]; omega
  have e3 : wrap64 ((m : Int) + 2 + 1) = (m : Int) + 3 := by rw [w64 (by omega)]; omega
  have e4 : wrap64 ((m : Int) + 3 + 1) = ((m + 4 : Nat) : Int) := by rw [w64 (by omega)]; omega
  have e5 : wrap64 ((i : Int) + 1) = ((i + 1 : Nat) : Int) := by rw [w64 (by omega)]; omega
  simp only [laws_markHoleS.l0, if_pos (show (i : Int) < (a.length : Int) by omega), if_pos (show (0 : Int) ≤ (i : Int) by omega), Option.bind_some, Int.toNat_natCast, rd76, List.set_set, e1, e2, e3, e4, e5, nthSet hi]
  rfl
theorem markHolesX (l : List S76) (hm : l.length ≤ 1048576) : Ev (fun k => laws_markHoleS.f k l 1) (((4 * l.length + 1 : Nat) : Int), marksH l.length) := by
  have main : ∀ d (i m : Nat) (a : List S76), m = 4 * i + 1 → a.length = l.length → l.length - i = d → i ≤ l.length → (∀ j, j < i → nth a j z76 = mkH ((4 * j + 1 : Nat) : Int)) → Ev (fun k => laws_markHoleS.l0 k a (m : Int) (i : Int)) (((4 * l.length + 1 : Nat) : Int), marksH l.length) := by
    intro d
    induction d with
    | zero =>
      intro i m a hmi ha hd hi hj
      have hil : i = l.length := by omega
      refine Ev.succ ?_
      simp only [laws_markHoleS.l0, if_neg (show ¬ ((i : Int) < (a.length : Int)) by omega)]
      have e : a = marksH l.length := by
        apply List.ext_getElem (by rw [ha, marksH_len])
        intro j h1 h2
        rw [marksH_len] at h2
        have := hj j (by omega)
        rw [nth_get h1] at this
        have h3 := marksH_nth l.length j h2
        rw [nth_get (by rw [marksH_len]; exact h2)] at h3
        rw [this, h3]
      rw [e, hmi, hil]
      exact Ev.now _
    | succ d ih =>
      intro i m a hmi ha hd hi hj
      refine Ev.succ ?_
      simp only [markOne _ a m i (by omega) (by omega) (by omega)]
      refine ih (i + 1) (m + 4) _ (by omega) (by simp [ha]) (by omega) (by omega) (fun j hj2 => ?_)
      by_cases e : j = i
      · subst e; rw [nthSet (by omega), hmi]
      · have := hj j (by omega)
        rw [nth_get (by omega)] at this
        rw [nth_get (by simp; omega), List.getElem_set_ne (by omega)]
        exact this
  exact main l.length 0 1 l rfl rfl (by omega) (by omega) (fun j hj => by omega)
theorem heldOne (k : Nat) (a : List S76) (m i : Nat) (hi : i < a.length) (hn : nth a i z76 = mkH (m : Int)) (hm : m ≤ 4398046511104) (hib : i ≤ 1048576) : laws_heldHoleS.l0 (k + 1) a (m : Int) (i : Int) = laws_heldHoleS.l0 k a ((m + 4 : Nat) : Int) ((i + 1 : Nat) : Int) := by
  have e1 : wrap64 ((m : Int) + 1) = (m : Int) + 1 := w64 (by omega)
  have e2 : wrap64 ((m : Int) + 1 + 1) = (m : Int) + 2 := by rw [w64 (by omega)]; omega
  have e3 : wrap64 ((m : Int) + 2 + 1) = (m : Int) + 3 := by rw [w64 (by omega)]; omega
  have e4 : wrap64 ((m : Int) + 3 + 1) = ((m + 4 : Nat) : Int) := by rw [w64 (by omega)]; omega
  have e5 : wrap64 ((i : Int) + 1) = ((i + 1 : Nat) : Int) := by rw [w64 (by omega)]; omega
  simp only [laws_heldHoleS.l0, if_pos (show (i : Int) < (a.length : Int) by omega), if_pos (show (0 : Int) ≤ (i : Int) by omega), rd76, e1, e2, e3, e4, e5, hn]
  rw [if_pos (show (mkH (m : Int)).f0 = (m : Int) from rfl), if_pos (show (mkH (m : Int)).f1 = (m : Int) + 1 from rfl), if_pos (show (mkH (m : Int)).f2 = (m : Int) + 2 from rfl), if_pos (show (mkH (m : Int)).f3 = (m : Int) + 3 from rfl)]
theorem heldHolesX (n : Nat) (hm : n ≤ 1048576) : Ev (fun k => laws_heldHoleS.f k (marksH n) 1) ((4 * n + 1 : Nat) : Int) := by
  have main : ∀ d (i m : Nat), m = 4 * i + 1 → n - i = d → i ≤ n → Ev (fun k => laws_heldHoleS.l0 k (marksH n) (m : Int) (i : Int)) ((4 * n + 1 : Nat) : Int) := by
    have hl := marksH_len n
    intro d
    induction d with
    | zero =>
      intro i m hmi hd hi
      have hil : i = n := by omega
      refine Ev.succ ?_
      simp only [laws_heldHoleS.l0, if_neg (show ¬ ((i : Int) < ((marksH n).length : Int)) by omega)]
      rw [hmi, hil]
      exact Ev.now _
    | succ d ih =>
      intro i m hmi hd hi
      refine Ev.succ ?_
      have hn := marksH_nth n i (by omega)
      rw [← hmi] at hn
      simp only [heldOne _ _ m i (by omega) hn (by omega) (by omega)]
      exact ih (i + 1) (m + 4) (by omega) (by omega) (by omega)
  exact main n 0 1 rfl (by omega) (by omega)
theorem hasInts (l : List Int) (c : Int) (hm : l.length ≤ 2097152) : Ev (fun k => spec_l1Has.f k l c) (decide (c ∈ l)) := by
  unfold spec_l1Has.f
  have h := scanE l.length (fun i => decide (nth l i 0 ≠ c)) false true (fun k i => spec_l1Has.l0 k l c i) ?hs ?hb ?he
  case hs =>
    intro i r hi ho hr
    refine Ev.succ ?_
    have hne : ¬ nth l i 0 = c := of_decide_eq_true ho
    simp only [spec_l1Has.l0, rdI, if_pos (show (i : Int) < (l.length : Int) by omega), if_pos (show (0 : Int) ≤ (i : Int) by omega), if_neg hne, w64 (x := (i : Int) + 1) (by omega)]
    exact hr
  case hb =>
    intro i hi ho
    refine Ev.succ ?_
    have heq : nth l i 0 = c := by simpa using ho
    simp only [spec_l1Has.l0, rdI, if_pos (show (i : Int) < (l.length : Int) by omega), if_pos (show (0 : Int) ≤ (i : Int) by omega), if_pos heq]
    exact Ev.now _
  case he =>
    refine Ev.succ ?_
    simp only [spec_l1Has.l0, if_neg (show ¬ ((l.length : Int) < (l.length : Int)) by omega)]
    exact Ev.now _
  have e : (if (List.range l.length).all (fun i => decide (nth l i 0 ≠ c)) = true then false else true) = decide (c ∈ l) := by
    by_cases hc : c ∈ l
    · rw [decide_eq_true hc, if_neg]
      intro hall
      obtain ⟨i, hi, rfl⟩ := List.getElem_of_mem hc
      have := List.all_eq_true.1 hall i (List.mem_range.2 hi)
      rw [nth_get hi] at this
      simp at this
    · rw [decide_eq_false hc, if_pos]
      refine List.all_eq_true.2 (fun i hi => ?_)
      have hi := List.mem_range.1 hi
      rw [nth_get hi]
      exact decide_eq_true (fun e => hc (e ▸ List.getElem_mem hi))
  rw [e] at h
  exact h
/-! What is left. -/
theorem goI_perm {β : Type} (lt : β → β → Bool) (x : β) : ∀ A B, (goI lt x A B).Perm (x :: (A ++ B))
  | [], B => List.Perm.refl _
  | y :: A, B => by
    unfold goI
    split
    · refine (goI_perm lt x A _).trans (List.Perm.cons _ ?_)
      exact List.perm_middle
    · have h1 : (A.reverse ++ y :: x :: B).Perm (y :: x :: (A.reverse ++ B)) := (List.perm_middle.trans (List.Perm.cons _ List.perm_middle))
      exact h1.trans ((List.Perm.swap _ _ _).trans (List.Perm.cons _ (List.Perm.cons _ ((List.reverse_perm A).append_right B))))
theorem isort_perm {β : Type} (lt : β → β → Bool) (l : List β) : (isort lt l).Perm l := by
  induction l using snoc_ind with
  | h0 => exact List.Perm.refl _
  | h1 l x ih =>
    rw [isort_snoc]
    unfold insR
    refine (goI_perm lt x _ _).trans ?_
    rw [List.append_nil]
    exact ((List.Perm.cons x ((List.reverse_perm _).trans ih))).trans (List.perm_append_singleton x l).symm
/-- How many can be mended. -/
def mend (f : Int → Int) : Int → List Int → Nat
  | _, [] => 0
  | m, a :: r => if f a ≤ m then mend f (m - f a) r + 1 else 0
theorem rng_lt (n : Nat) : (rng n).Pairwise (· < ·) := by
  unfold rng
  rw [List.pairwise_map]
  exact List.pairwise_lt_range.imp (fun h => by omega)
theorem left_eq (wd : Int) (cs : List Int) (l : List S76) (n k : Nat) : sortI ((ordL wd cs l n).drop k) = (rng n).filter fun i => !decide (i ∈ (ordL wd cs l n).take k) := by
  have hp : (ordL wd cs l n).Perm (rng n) := isort_perm _ _
  generalize ordL wd cs l n = s at hp ⊢
  have hnr : (rng n).Nodup := (rng_lt n).imp (fun h => by omega)
  have hns : s.Nodup := hp.nodup_iff.2 hnr
  have hnd := hns
  rw [← List.take_append_drop k s, List.nodup_append] at hnd
  obtain ⟨d1, d2, d3⟩ := hnd
  have hq : ((rng n).filter fun i => !decide (i ∈ s.take k)).Pairwise (· < ·) := (rng_lt n).filter _
  have hperm : (sortI (s.drop k)).Perm ((rng n).filter fun i => !decide (i ∈ s.take k)) := by
    refine (List.mergeSort_perm _ _).trans ?_
    rw [List.perm_ext_iff_of_nodup d2 (hq.imp (fun h => by omega))]
    intro a
    simp only [List.mem_filter, Bool.not_eq_true', decide_eq_false_iff_not]
    constructor
    · intro h
      exact ⟨hp.mem_iff.1 (List.mem_of_mem_drop h), fun h2 => d3 a h2 a h rfl⟩
    · rintro ⟨h1, h2⟩
      have h3 := hp.mem_iff.2 h1
      rw [← List.take_append_drop k s] at h3
      exact (List.mem_append.1 h3).resolve_left h2
  refine List.Perm.eq_of_pairwise (le := (· ≤ ·)) (fun a b _ _ h1 h2 => by omega) ?_ (hq.imp (fun h => by omega)) hperm
  have := List.pairwise_mergeSort (le := fun x y : Int => decide (x ≤ y)) (fun a b c h1 h2 => by simp only [decide_eq_true_eq] at *; omega) (fun a b => by simp only [Bool.or_eq_true, decide_eq_true_eq]; omega) (s.drop k)
  exact this.imp (fun h => by simpa using h)
/-- The holes that are left after m minutes. -/
def leftL (wd : Int) (cs : List Int) (l : List S76) (m : Int) : List S76 :=
  (sortI ((ordL wd cs l l.length).drop (mend (fun a => mm wd cs (nth l a.toNat z76)) m (ordL wd cs l l.length)))).map fun a => nth l a.toNat z76
end MQ
end Go.Proofs.Ytkglpfdoefdhdaa.WK

namespace Go.Proofs
shelf_lay_g SlLaysM.n5 Slgm 5 at Try 89 as Try.laySort
end Go.Proofs
namespace Go.Proofs.Ytkglpfdoefdhdaa.WK
open Go Go.RowKit Go.Proofs.Ytkglpfdoefdhdaa.Q Go.Proofs.Ytkglpfdoefdhdaa.M Go.Proofs.YtkglpfdoefdhdaaW.PrintWords Go.Proofs.YtkglpfdoefdhdaaW.SL
open Go.Proofs.YtkglpfdoefdhdaaW.Pl (nth nth_get)
open Go.Proofs.Ytkglpfdoefdhdaa.M.MN (mm lostL lostE)
set_option linter.unusedSimpArgs false
set_option linter.unusedVariables false
set_option maxRecDepth 100000
open Go.Sort Go.Shelf Go.Lib
namespace FM
open MO (ordL ordL_len ordL_mem minutes mixed agg26 agg76 el24 el65 sc3 sc65 ap24 goodHole en122)
open MQ (mend leftL)
theorem zero76 : ZeroT Try.prog 76 [.int .i64 0, .int .i64 0, .int .i64 0, .int .i64 0] := ⟨by kernel_rfl⟩
theorem en54 : Ent Try.prog 54 := ⟨enters_of Try.func54 (by kernel_rfl) rfl⟩
theorem en82 : Ent Try.prog 82 := ⟨enters_of Try.func82 (by kernel_rfl) rfl⟩
theorem en89 : Ent Try.prog 89 := ⟨enters_of Try.func89 (by kernel_rfl) rfl⟩
def enc (x : S76) : List Value := [.int .i64 x.f0, .int .i64 x.f1, .int .i64 x.f2, .int .i64 x.f3]
theorem encO (x : S76) : ∀ u ∈ enc x, u.oneCell' = true := fun u hu => by
  simp only [enc, List.mem_cons, List.not_mem_nil, or_false] at hu
  rcases hu with rfl | rfl | rfl | rfl <;> rfl
theorem ap65 : ApT Try.prog 65 76 4 32 := apT_of (z := .agg #[.int .i64 0, .int .i64 0, .int .i64 0, .int .i64 0]) Try.underlying65 (by kernel_rfl) rfl (by decide)
theorem fill4 (a b c d z0 z1 z2 z3 : Value) : Instr.fill (fun i => some (i * 4, 4)) ((Array.range 4).map (fun j => [z0, z1, z2, z3][j % [z0, z1, z2, z3].length]?.getD default)) [(0, .agg #[a, b, c, d])] = some #[a, b, c, d] := by
  have h : (Array.range 4).map (fun j => [z0, z1, z2, z3][j % [z0, z1, z2, z3].length]?.getD default) = #[z0, z1, z2, z3] := by
    apply Array.toList_inj.1
    rw [Array.toList_map, Array.toList_range]
    rfl
  rw [h]
  simp [Instr.fill, Value.cells, Array.zipIdx]
theorem outH {w0 w : World} {v : Value} {xs : List S76} {its : List Go.Proofs.YtkglpfdoefdhdaaW.SL.Item} {ps : List (World → Prop)} (h : WS (base w0) w its ps) (hpk : Pick its [.row k76 76 0 v xs]) : k76.R 76 w w0.heap.size (fun _ => True) v xs := by
  obtain ⟨h1, S, ⟨Aa, C1, g1, g2, g3, g4⟩, h3, h4⟩ := h.pick hpk
  have hown : ∀ k, v.ownBlock = some k → w0.heap.size ≤ k := fun k hk => (h3 k ((g3 k).2 (.inl (g1.1.1 k hk)))).resolve_left (fun h => h)
  exact Kd.R_mono (Kd.R_raise (b := 0) (fun _ _ _ _ h => (k76_openM h) ▸ k76_mkM _ _ _ _) g1.1 hown) (fun _ _ => trivial)
theorem add_off (hd o n : Nat) : (⟨hd, o, none⟩ : Addr).add n = ⟨hd, o + n, none⟩ := by
  unfold Addr.add
  split
  · rename_i h; rw [h]; rfl
  · rfl
theorem loadRT {P : Program} {N : Nat} {B : Base} {L : Sl} {its : List Go.Proofs.YtkglpfdoefdhdaaW.SL.Item} {ps : List (World → Prop)} {op : Oper} {T m : Nat} {x : Operand} {xs : List Int} {g o cap e b : Nat} {i0 : Int} (hop : op.op = .load T x) (hx : ev L x = some (.pointer (some ((⟨g, o, none⟩ : Addr).add (i0.toNat * 1))))) (hT : ScT P T) (hn : Go.Proofs.YtkglpfdoefdhdaaW.SL.Item.row (Kd.int .i64) e b (.slice (some ⟨g, 0, none⟩) m cap) xs ∈ its) (i : Int) (h0 : 0 ≤ i) (h1 : i < (m : Int)) (hj : o + i0.toNat = i.toNat) : Yd P N B op (.int .i64 (xs.getD i.toNat 0)) L its ps :=
  Y.loadRI hop (by rw [hx, add_off]) hT hn i h0 h1 (by omega)
/-- A row of ints of which a part was written anew. -/
theorem putO {w : World} {e b g cap q o n : Nat} {os : Array Obj} {A : Nat → Prop} {xs : List Int} (hn : n = xs.length) (h : (Go.Proofs.YtkglpfdoefdhdaaW.SL.Item.row KI e b (.slice (some ⟨g, 0, none⟩) n cap) xs).p w A) (ys : List Int) (hl : o + ys.length ≤ xs.length) :
    (Go.Proofs.YtkglpfdoefdhdaaW.SL.Item.row KI e b (.slice (some ⟨g, 0, none⟩) n cap) (xs.take o ++ ys ++ xs.drop (o + ys.length))).p (grow (putRow (Value.int .i64) (Sort.ahead w q) g o ys.toArray) os) A ∧ Aft A w (grow (putRow (Value.int .i64) (Sort.ahead w q) g o ys.toArray) os) := by
  obtain ⟨hr, hlt⟩ := h
  obtain ⟨h1, h2, h3⟩ := row_I.1 hr
  have hg : A g := h1 g rfl
  have hgl := hlt g hg
  have hml : (xs.take o ++ ys ++ xs.drop (o + ys.length)).length = xs.length := by simp only [List.length_append, List.length_take, List.length_drop]; omega
  have hheap : (grow (putRow (Value.int .i64) (Sort.ahead w q) g o ys.toArray) os).heap = w.heap.modify g (onCells (putCells (Value.int .i64) o ys.toArray)) ++ os := rfl
  rcases h3 with ⟨h3, _⟩ | ⟨g', cap', cur, h4, h5, h6, h7, h8, h9, h10⟩
  · cases h3
  simp only [Value.slice.injEq, Option.some.injEq, Addr.mk.injEq, and_true, true_and] at h4
  obtain ⟨rfl, h4b, rfl⟩ := h4
  have hsz : w.heap.size ≤ (grow (putRow (Value.int .i64) (Sort.ahead w q) g o ys.toArray) os).heap.size := by rw [hheap]; simp
  have hat : ∀ k, k < w.heap.size → (grow (putRow (Value.int .i64) (Sort.ahead w q) g o ys.toArray) os).heap[k]? = (w.heap.modify g (onCells (putCells (Value.int .i64) o ys.toArray)))[k]? := fun k hk => by
    rw [hheap, Array.getElem?_append_left (by simpa using hk)]
  refine ⟨⟨row_I.2 ⟨h1, by simp, .inr ⟨g, cap, putCells (Value.int .i64) o ys.toArray cur, by rw [hml, hn], h5, ?_, by rw [hml]; omega, h8, by simp [putCells, h9], ?_⟩⟩, fun k hk => Nat.lt_of_lt_of_le (hlt k hk) hsz⟩, rfl, rfl, rfl, hsz, fun k hk hn => ?_⟩
  · rw [hat g hgl, Array.getElem?_modify, if_pos rfl, h6]; rfl
  · rw [hml]
    apply List.ext_getElem?
    intro j
    have h11 := congrArg (fun l => l[j]?) h10
    simp only [List.getElem?_take, List.getElem?_map, Nat.mul_one] at h11
    rw [List.getElem?_take, List.getElem?_map, Nat.mul_one]
    by_cases hj : j < xs.length
    · rw [if_pos hj] at h11 ⊢
      have hjc : j < cur.size := by omega
      simp only [putCells, Array.getElem?_toList, Array.getElem?_mapIdx, Array.getElem?_eq_getElem hjc, Option.map_some, List.size_toArray]
      rw [Array.getElem?_toList, Array.getElem?_eq_getElem hjc] at h11
      by_cases hjo : o ≤ j ∧ j < o + ys.length
      · rw [if_pos hjo, List.append_assoc, List.getElem?_append_right (by rw [List.length_take]; omega), List.length_take, show j - min o xs.length = j - o by omega, List.getElem?_append_left (by omega), List.getElem?_eq_getElem (by omega)]
        have hjl : j - o < ys.length := by omega
        simp [hjl]
      · rw [if_neg hjo, h11]
        by_cases hj2 : j < o
        · rw [List.append_assoc, List.getElem?_append_left (by rw [List.length_take]; omega), List.getElem?_take, if_pos hj2]
        · rw [List.getElem?_append_right (by rw [List.length_append, List.length_take]; omega), List.length_append, List.length_take, List.getElem?_drop]
          congr 2
          omega
    · rw [if_neg hj, List.getElem?_eq_none (by rw [hml]; omega)]; rfl
  · rw [hat k hk, Array.getElem?_modify, if_neg (fun e : g = k => hn (e ▸ hg))]
/-- slices.Sort at a part of a row. -/
theorem sortT (hd o m c n cap : Nat) (xs ys : List Int) (hn : n = xs.length) (hm : m = ys.length) (hl : o + ys.length ≤ xs.length) (hy : ∀ j, j < ys.length → xs[o + j]? = ys[j]?) (w : World) (S : Nat → Prop) (h : (Go.Proofs.YtkglpfdoefdhdaaW.SL.Item.row KI 3 0 (.slice (some ⟨hd, 0, none⟩) n cap) xs).p w S) (hs : xs.length ≤ 1048576) :
    Calls Try.prog 89 #[.slice (some ⟨hd, o, none⟩) m c] w fun e' w' => e' = .returned (.tuple #[]) ∧ ∃ S', (Go.Proofs.YtkglpfdoefdhdaaW.SL.Item.row KI 3 0 (.slice (some ⟨hd, 0, none⟩) n cap) (xs.take o ++ sortI ys ++ xs.drop (o + ys.length))).p w' S' ∧ (∀ k, S' k → k < w.heap.size → S k) ∧ Aft S w w' := by
  subst hn hm
  obtain ⟨h1, h2, h3⟩ := holds_I h
  refine (AnyM.slices_Sort_int Try.laySort hd o c ys w (fun j hj => ?_) h2 (by omega)).mono ?_
  · have hjx : j < ys.length := by simpa using hj
    have h4 := h1 (o + j) (by simp; omega)
    rw [Nat.zero_add] at h4
    have h5 := hy j hjx
    rw [List.getElem?_eq_getElem (by omega), List.getElem?_eq_getElem hjx] at h5
    have h6 : xs.toArray[o + j]! = ys.toArray[j]! := by
      have ha : o + j < xs.length := by omega
      simp [ha, hjx]; exact Option.some.inj h5
    rw [h6] at h4
    exact h4
  · rintro e' w' ⟨rfl, q, os, rfl⟩
    have hp := putO (q := q) (os := os) (o := o) rfl h (sortI ys) (by rw [sortI_len]; exact hl)
    rw [sortI_len] at hp
    exact ⟨rfl, S, hp.1, fun k hk _ => hk, hp.2⟩
theorem sortN {A : Option Addr} {S : Nat → Prop} {xs : List Int} {c : Nat} {w : World} (h : (Go.Proofs.YtkglpfdoefdhdaaW.SL.Item.row KI 3 0 (.slice A xs.length c) xs).p w S) (h0 : xs.length = 0) :
    Calls Try.prog 89 #[.slice A xs.length c] w fun e' w' => e' = .returned (.tuple #[]) ∧ ∃ S', (Go.Proofs.YtkglpfdoefdhdaaW.SL.Item.row KI 3 0 (.slice A xs.length c) xs).p w' S' ∧ (∀ k, S' k → k < w.heap.size → S k) ∧ Aft S w w' := by
  obtain rfl := List.length_eq_zero_iff.1 h0
  have := sort_I Try.laySort h (by simp)
  rw [show sortI [] = [] by simp [sortI]] at this
  exact this
theorem inC {m : Int} {b : Bool} (h : decide (0 ≤ m ∧ m ≤ 10000) = b) (w : World) : Calls Try.prog 82 #[.int .i64 m, .int .i64 0, .int .i64 10000] w fun e w' => e = .returned (.bool b) ∧ Below w.heap.size w w' :=
  (impl_in.calls m 0 10000 b w (by rw [iIn, h])).mono (fun _ _ hh => ⟨hh.1, hh.2.below⟩)
/-- l[1:] of a tail. -/
theorem tail1 (hd q n c : Nat) : Value.slice (if c - q = (1 : Int).toNat then some (⟨hd, q, none⟩ : Addr) else Option.map (fun x : Addr => x.add ((1 : Int).toNat * 1)) (some ⟨hd, q, none⟩)) (n - q - (1 : Int).toNat) (c - q - (1 : Int).toNat) = .slice (some ⟨hd, if c - q = 1 then q else q + 1, none⟩) (n - (q + 1)) (c - (q + 1)) := by
  have e1 : (1 : Int).toNat = 1 := rfl
  rw [e1, Nat.sub_sub, Nat.sub_sub]
  split <;> rfl
theorem mend_cons (f : Int → Int) (m a : Int) (r : List Int) : mend f m (a :: r) = if f a ≤ m then mend f (m - f a) r + 1 else 0 := rfl
theorem mendQ {f : Int → Int} {m0 m : Int} {s : List Int} {q : Nat} {a : Int} (h : mend f m0 s = q + mend f m (s.drop q)) (ha : s[q]? = some a) : (f a ≤ m → mend f m0 s = (q + 1) + mend f (m - f a) (s.drop (q + 1))) ∧ (¬ f a ≤ m → mend f m0 s = q) := by
  obtain ⟨hq, rfl⟩ := List.getElem?_eq_some_iff.1 ha
  rw [List.drop_eq_getElem_cons hq, mend_cons] at h
  refine ⟨fun hle => ?_, fun hle => ?_⟩
  · rw [if_pos hle] at h; rw [h]; omega
  · rw [if_neg hle] at h; exact h
set_option maxHeartbeats 4000000 in
/-- FirstMended at holes that are none. -/
theorem iNo {wd ht : Int} {cs : List Int} {l : List S76} (m0 : Int) (A0 : Option Addr) (c0 : Nat) (A1 : Option Addr) (c1 : Nat) (w : World) (hrC : Kd.C (Kd.int .i64) w A0 cs.length cs) (hc : cs.length ≤ c0) (hrH : Kd.C k76 w A1 l.length l) (hcl : l.length ≤ c1) (hlb : l.length ≤ 1048576) (hg : goodH wd ht cs l = false) : Calls Try.prog 56 #[.agg #[.int .i64 wd, .int .i64 ht, .slice A0 cs.length c0], .slice A1 l.length c1, .int .i64 m0] w fun e w' => ∃ v, e = .returned (.tuple #[v, .bool false]) ∧ k76.R 76 w' w.heap.size (fun _ => True) v [] ∧ Below w.heap.size w w' := by
  let Rr : Ending → World → Prop := fun e w' => ∃ v, e = .returned (.tuple #[v, .bool false]) ∧ k76.R 76 w' w.heap.size (fun _ => True) v [] ∧ Below w.heap.size w w'
  refine enterW (args := [.agg #[.int .i64 wd, .int .i64 ht, .slice A0 cs.length c0], .slice A1 l.length c1, .int .i64 m0]) [(fun W => Kd.C (Kd.int .i64) W A0 cs.length cs), (fun W => Kd.C k76 W A1 l.length l)] (fun p hp W hb => by
    rcases List.mem_cons.1 hp with rfl | hp
    · exact Kd.C_below hrC hb
    · rw [List.mem_singleton.1 hp]; exact Kd.C_below hrH hb) Try.func56 rfl rfl ?_
  show Cj Try.prog _ _ _ (bodyPost Try.prog Try.f56 Rr) _ _ _
  have iNo := fun A0 c0 A1 c1 w h1 h2 h3 h4 h5 => @MO.iNo wd ht cs l A0 c0 A1 c1 w h1 h2 h3 h4 h5 hg
  repeat (first
    | (apply gateO; first
      | refine Jl.yd (Y.mv rfl rfl) rfl rfl rfl ?_
      | refine Jl.yd (Y.asg rfl rfl) rfl rfl rfl ?_
      | refine Jl.yd (Y.ext rfl rfl rfl) rfl rfl rfl ?_
      | refine Jl.yd (Y.pickT rfl rfl rfl) rfl rfl rfl ?_
      | refine Jl.yd (Y.pickF rfl rfl rfl) rfl rfl rfl ?_
      | refine Jl.off rfl rfl rfl ?_
      | refine Jl.yd (Y.cmpF rfl rfl rfl rfl (by omega)) rfl rfl rfl ?_
      | refine Jl.yd (Y.cmpT rfl rfl rfl rfl (by omega)) rfl rfl rfl ?_
      | refine Jl.yd (Y.neqB rfl rfl rfl Try.underlying4) rfl rfl rfl ?_
      | refine Jl.yd (Y.cmp rfl rfl rfl rfl) rfl rfl rfl ?_
      | refine Jl.yd (Y.not rfl rfl) rfl rfl rfl ?_
      | refine Jl.yd (Y.arithN rfl rfl rfl rfl (by omega)) rfl rfl rfl ?_
      | refine Jl.yd (Y.arith64 rfl rfl rfl rfl) rfl rfl rfl ?_
      | refine Jl.yd (Y.loadA rfl rfl agg26 (by repeat (first | exact .head _ | refine .tail _ ?_)) (by rfl)) rfl rfl rfl ?_
      | refine Jl.yd (Y.lenS Try.underlying65 rfl rfl rfl) rfl rfl rfl ?_
      | refine Jl.yd (Y.lenS Try.underlying24 rfl rfl rfl) rfl rfl rfl ?_
      | refine Jl.box (zs := [.int .i64 wd, .int .i64 ht, .slice A0 cs.length c0]) rfl rfl rfl rfl rfl (by rfl) (fun gc => ?_)
      | refine Jl.callR 0 (fun v => .tuple #[v, .bool false]) rfl rfl rfl rfl en54 rfl (fun w hW => by with_reducible exact iNo A0 c0 A1 c1 w (hW.fact (p := (fun W => Kd.C (Kd.int .i64) W A0 cs.length cs)) (by repeat (first | exact memH | refine memT ?_))) hc (hW.fact (p := (fun W => Kd.C k76 W A1 l.length l)) (by repeat (first | exact memH | refine memT ?_))) hcl hlb) (fun A8 c8 h8 => ?_)
      | refine Jl.splitG rfl rfl (fun h => ?_) (fun h => ?_))
    | (apply gateE; first
      | refine Jl.nil (Ej.go ?_ (fun _ _ h => h))
      | (refine Jl.nil (Ej.back (fun _ _ h => h) (by repeat (first | exact .refl | apply DropTo.tail)) ?_); repeat (first | exact trivial | refine ⟨rfl, ?_⟩)))
    | (apply gateC; first
      | refine Cj.ret rfl (Ej.out2 (P := Try.prog) (fn := Try.f56) (R := Rr) (fun _ _ h => h) rfl rfl rfl (fun w' hW => ⟨_, rfl, Kd.R_nil _ _ _ _ _, hW.below⟩))
      | refine Cj.condF rfl rfl (Cj.skip rfl (Ej.go ?_ (fun _ _ h => h)))
      | (refine Cj.condF rfl rfl (Cj.skip rfl (Ej.back (fun _ _ h => h) (by repeat (first | exact .refl | apply DropTo.tail)) ?_)); repeat (first | exact trivial | refine ⟨rfl, ?_⟩))
      | refine Cj.condF rfl rfl ?_
      | refine Cj.condT rfl rfl ?_
      | refine Cj.exit rfl (Ej.go ?_ (fun _ _ h => h))
      | refine Cj.cond rfl rfl (fun h => ?_) (fun h => ?_)
      | refine Cj.skip rfl (Ej.go ?_ (fun _ _ h => h))
      | (refine Cj.skip rfl (Ej.back (fun _ _ h => h) (by repeat (first | exact .refl | apply DropTo.tail)) ?_); repeat (first | exact trivial | refine ⟨rfl, ?_⟩))
      | refine Cj.seq rfl ?_
      | refine Cj.region rfl ?_))
set_option maxHeartbeats 4000000 in
/-- FirstMended at minutes that are none. -/
theorem iNoM {wd ht : Int} {cs : List Int} {l : List S76} (m0 : Int) (A0 : Option Addr) (c0 : Nat) (A1 : Option Addr) (c1 : Nat) (w : World) (hrC : Kd.C (Kd.int .i64) w A0 cs.length cs) (hc : cs.length ≤ c0) (hrH : Kd.C k76 w A1 l.length l) (hcl : l.length ≤ c1) (hlb : l.length ≤ 1048576) (hg : goodH wd ht cs l = true) (hin : decide (0 ≤ m0 ∧ m0 ≤ 10000) = false) : Calls Try.prog 56 #[.agg #[.int .i64 wd, .int .i64 ht, .slice A0 cs.length c0], .slice A1 l.length c1, .int .i64 m0] w fun e w' => ∃ v, e = .returned (.tuple #[v, .bool false]) ∧ k76.R 76 w' w.heap.size (fun _ => True) v [] ∧ Below w.heap.size w w' := by
  let Rr : Ending → World → Prop := fun e w' => ∃ v, e = .returned (.tuple #[v, .bool false]) ∧ k76.R 76 w' w.heap.size (fun _ => True) v [] ∧ Below w.heap.size w w'
  refine enterW (args := [.agg #[.int .i64 wd, .int .i64 ht, .slice A0 cs.length c0], .slice A1 l.length c1, .int .i64 m0]) [(fun W => Kd.C (Kd.int .i64) W A0 cs.length cs), (fun W => Kd.C k76 W A1 l.length l)] (fun p hp W hb => by
    rcases List.mem_cons.1 hp with rfl | hp
    · exact Kd.C_below hrC hb
    · rw [List.mem_singleton.1 hp]; exact Kd.C_below hrH hb) Try.func56 rfl rfl ?_
  show Cj Try.prog _ _ _ (bodyPost Try.prog Try.f56 Rr) _ _ _
  have iYes := fun A0 c0 A1 c1 w h1 h2 h3 h4 h5 => @MO.iYes wd ht cs l A0 c0 A1 c1 w h1 h2 h3 h4 h5 hg
  repeat (first
    | (apply gateO; first
      | refine Jl.yd (Y.mv rfl rfl) rfl rfl rfl ?_
      | refine Jl.yd (Y.asg rfl rfl) rfl rfl rfl ?_
      | refine Jl.yd (Y.ext rfl rfl rfl) rfl rfl rfl ?_
      | refine Jl.yd (Y.pickT rfl rfl rfl) rfl rfl rfl ?_
      | refine Jl.yd (Y.pickF rfl rfl rfl) rfl rfl rfl ?_
      | refine Jl.off rfl rfl rfl ?_
      | refine Jl.yd (Y.cmpF rfl rfl rfl rfl (by omega)) rfl rfl rfl ?_
      | refine Jl.yd (Y.cmpT rfl rfl rfl rfl (by omega)) rfl rfl rfl ?_
      | refine Jl.yd (Y.neqB rfl rfl rfl Try.underlying4) rfl rfl rfl ?_
      | refine Jl.yd (Y.cmp rfl rfl rfl rfl) rfl rfl rfl ?_
      | refine Jl.yd (Y.not rfl rfl) rfl rfl rfl ?_
      | refine Jl.yd (Y.arithN rfl rfl rfl rfl (by omega)) rfl rfl rfl ?_
      | refine Jl.yd (Y.arith64 rfl rfl rfl rfl) rfl rfl rfl ?_
      | refine Jl.yd (Y.loadA rfl rfl agg26 (by repeat (first | exact .head _ | refine .tail _ ?_)) (by rfl)) rfl rfl rfl ?_
      | refine Jl.yd (Y.lenS Try.underlying65 rfl rfl rfl) rfl rfl rfl ?_
      | refine Jl.yd (Y.lenS Try.underlying24 rfl rfl rfl) rfl rfl rfl ?_
      | refine Jl.box (zs := [.int .i64 wd, .int .i64 ht, .slice A0 cs.length c0]) rfl rfl rfl rfl rfl (by rfl) (fun gc => ?_)
      | refine Jl.callR 0 (fun v => .tuple #[v, .bool true]) rfl rfl rfl rfl en54 rfl (fun w hW => by with_reducible exact iYes A0 c0 A1 c1 w (hW.fact (p := (fun W => Kd.C (Kd.int .i64) W A0 cs.length cs)) (by repeat (first | exact memH | refine memT ?_))) hc (hW.fact (p := (fun W => Kd.C k76 W A1 l.length l)) (by repeat (first | exact memH | refine memT ?_))) hcl hlb) (fun A8 c8 h8 => ?_)
      | refine Jl.call1 (v := .bool false) rfl rfl rfl rfl en82 rfl (fun w hW => by with_reducible exact inC hin w) ?_
      | refine Jl.splitG rfl rfl (fun h => ?_) (fun h => ?_))
    | (apply gateE; first
      | refine Jl.nil (Ej.go ?_ (fun _ _ h => h))
      | (refine Jl.nil (Ej.back (fun _ _ h => h) (by repeat (first | exact .refl | apply DropTo.tail)) ?_); repeat (first | exact trivial | refine ⟨rfl, ?_⟩)))
    | (apply gateC; first
      | refine Cj.ret rfl (Ej.out2 (P := Try.prog) (fn := Try.f56) (R := Rr) (fun _ _ h => h) rfl rfl rfl (fun w' hW => ⟨_, rfl, Kd.R_nil _ _ _ _ _, hW.below⟩))
      | refine Cj.condF rfl rfl (Cj.skip rfl (Ej.go ?_ (fun _ _ h => h)))
      | (refine Cj.condF rfl rfl (Cj.skip rfl (Ej.back (fun _ _ h => h) (by repeat (first | exact .refl | apply DropTo.tail)) ?_)); repeat (first | exact trivial | refine ⟨rfl, ?_⟩))
      | refine Cj.condF rfl rfl ?_
      | refine Cj.condT rfl rfl ?_
      | refine Cj.exit rfl (Ej.go ?_ (fun _ _ h => h))
      | refine Cj.cond rfl rfl (fun h => ?_) (fun h => ?_)
      | refine Cj.skip rfl (Ej.go ?_ (fun _ _ h => h))
      | (refine Cj.skip rfl (Ej.back (fun _ _ h => h) (by repeat (first | exact .refl | apply DropTo.tail)) ?_); repeat (first | exact trivial | refine ⟨rfl, ?_⟩))
      | refine Cj.seq rfl ?_
      | refine Cj.region rfl ?_))
set_option maxHeartbeats 16000000 in
/-- FirstMended: what is left. -/
theorem iYes {wd ht : Int} {cs : List Int} {l : List S76} (m0 : Int) (A0 : Option Addr) (c0 : Nat) (A1 : Option Addr) (c1 : Nat) (w : World) (hrC : Kd.C (Kd.int .i64) w A0 cs.length cs) (hc : cs.length ≤ c0) (hrH : Kd.C k76 w A1 l.length l) (hcl : l.length ≤ c1) (hlb : l.length ≤ 1048576) (hg : goodH wd ht cs l = true) (hin : decide (0 ≤ m0 ∧ m0 ≤ 10000) = true) : Calls Try.prog 56 #[.agg #[.int .i64 wd, .int .i64 ht, .slice A0 cs.length c0], .slice A1 l.length c1, .int .i64 m0] w fun e w' => ∃ v, e = .returned (.tuple #[v, .bool true]) ∧ k76.R 76 w' w.heap.size (fun _ => True) v (leftL wd cs l m0) ∧ Below w.heap.size w w' := by
  obtain ⟨hg', hl8, ho⟩ := goodHole hg
  have hin2 : 0 ≤ m0 ∧ m0 ≤ 10000 := of_decide_eq_true hin
  have hMO := fun A0 c0 A1 c1 w h1 h2 h3 h4 h5 => @MO.iYes wd ht cs l A0 c0 A1 c1 w h1 h2 h3 h4 h5 hg
  unfold leftL
  have hsl0 := ordL_len wd cs l l.length
  have hsm : ∀ a, a ∈ ordL wd cs l l.length → ∃ i : Nat, i < l.length ∧ a = (i : Int) := fun a ha => ordL_mem ha
  obtain ⟨s, hs⟩ : ∃ s, ordL wd cs l l.length = s := ⟨_, rfl⟩
  rw [hs] at hMO hsl0 hsm ⊢
  obtain ⟨f, hf⟩ : ∃ f : Int → Int, (fun a => mm wd cs (nth l a.toNat z76)) = f := ⟨_, rfl⟩
  rw [hf]
  let Rr : Ending → World → Prop := fun e w' => ∃ v, e = .returned (.tuple #[v, .bool true]) ∧ k76.R 76 w' w.heap.size (fun _ => True) v ((sortI (s.drop (mend f m0 s))).map fun a => nth l a.toNat z76) ∧ Below w.heap.size w w'
  refine enterW (args := [.agg #[.int .i64 wd, .int .i64 ht, .slice A0 cs.length c0], .slice A1 l.length c1, .int .i64 m0]) [(fun W => Kd.C (Kd.int .i64) W A0 cs.length cs), (fun W => Kd.C k76 W A1 l.length l)] (fun p hp W hb => by
    rcases List.mem_cons.1 hp with rfl | hp
    · exact Kd.C_below hrC hb
    · rw [List.mem_singleton.1 hp]; exact Kd.C_below hrH hb) Try.func56 rfl rfl ?_
  show Cj Try.prog _ _ _ (bodyPost Try.prog Try.f56 Rr) _ _ _
  repeat (first
    | (apply gateO; first
      | refine Jl.yd (Y.mv rfl rfl) rfl rfl rfl ?_
      | refine Jl.yd (Y.asg rfl rfl) rfl rfl rfl ?_
      | refine Jl.yd (Y.ext rfl rfl rfl) rfl rfl rfl ?_
      | refine Jl.yd (Y.pickT rfl rfl rfl) rfl rfl rfl ?_
      | refine Jl.yd (Y.pickF rfl rfl rfl) rfl rfl rfl ?_
      | refine Jl.off rfl rfl rfl ?_
      | refine Jl.yd (Y.cmpF rfl rfl rfl rfl (by omega)) rfl rfl rfl ?_
      | refine Jl.yd (Y.cmpT rfl rfl rfl rfl (by omega)) rfl rfl rfl ?_
      | refine Jl.yd (Y.neqB rfl rfl rfl Try.underlying4) rfl rfl rfl ?_
      | refine Jl.yd (Y.cmp rfl rfl rfl rfl) rfl rfl rfl ?_
      | refine Jl.yd (Y.not rfl rfl) rfl rfl rfl ?_
      | refine Jl.yd (Y.arithN rfl rfl rfl rfl (by omega)) rfl rfl rfl ?_
      | refine Jl.yd (Y.arith64 rfl rfl rfl rfl) rfl rfl rfl ?_
      | refine Jl.yd (Y.loadA rfl rfl agg26 (by repeat (first | exact .head _ | refine .tail _ ?_)) (by rfl)) rfl rfl rfl ?_
      | refine Jl.yd (Y.lenS Try.underlying65 rfl rfl rfl) rfl rfl rfl ?_
      | refine Jl.yd (Y.lenS Try.underlying24 rfl rfl rfl) rfl rfl rfl ?_
      | refine Jl.box (zs := [.int .i64 wd, .int .i64 ht, .slice A0 cs.length c0]) rfl rfl rfl rfl rfl (by rfl) (fun gc => ?_)
      | refine Jl.callR 0 (fun v => .tuple #[v, .bool true]) rfl rfl rfl rfl en54 rfl (fun w hW => by with_reducible exact hMO A0 c0 A1 c1 w (hW.fact (p := (fun W => Kd.C (Kd.int .i64) W A0 cs.length cs)) (by repeat (first | exact memH | refine memT ?_))) hc (hW.fact (p := (fun W => Kd.C k76 W A1 l.length l)) (by repeat (first | exact memH | refine memT ?_))) hcl hlb) (fun A8 c8 h8 => ?_)
      | refine Jl.call1 (v := .bool true) rfl rfl rfl rfl en82 rfl (fun w hW => by with_reducible exact inC hin w) ?_
      | refine Jl.splitG rfl rfl (fun h => ?_) (fun h => ?_))
    | (apply gateE; first
      | refine Jl.nil (Ej.go ?_ (fun _ _ h => h))
      | (refine Jl.nil (Ej.back (fun _ _ h => h) (by repeat (first | exact .refl | apply DropTo.tail)) ?_); repeat (first | exact trivial | refine ⟨rfl, ?_⟩)))
    | (apply gateC; first
      | refine Cj.block rfl ?_
      | refine Cj.condF rfl rfl (Cj.skip rfl (Ej.go ?_ (fun _ _ h => h)))
      | (refine Cj.condF rfl rfl (Cj.skip rfl (Ej.back (fun _ _ h => h) (by repeat (first | exact .refl | apply DropTo.tail)) ?_)); repeat (first | exact trivial | refine ⟨rfl, ?_⟩))
      | refine Cj.condF rfl rfl ?_
      | refine Cj.condT rfl rfl ?_
      | refine Cj.exit rfl (Ej.go ?_ (fun _ _ h => h))
      | refine Cj.cond rfl rfl (fun h => ?_) (fun h => ?_)
      | refine Cj.skip rfl (Ej.go ?_ (fun _ _ h => h))
      | (refine Cj.skip rfl (Ej.back (fun _ _ h => h) (by repeat (first | exact .refl | apply DropTo.tail)) ?_); repeat (first | exact trivial | refine ⟨rfl, ?_⟩))
      | refine Cj.seq rfl ?_
      | refine Cj.region rfl ?_))
  refine Cj.ws (ι := Option Nat) (fun o => match o with | none => s.length = 0 | some hd => A8 = some ⟨hd, 0, none⟩) (fun _ => [.row KI 3 0 (.slice A8 s.length c8) s, .box gc 26 [.int .i64 wd, .int .i64 ht, .slice A0 cs.length c0]]) (fun _ => [(fun W => Kd.C (Kd.int .i64) W A0 cs.length cs), (fun W => Kd.C k76 W A1 l.length l)]) (fun w' hW => by
    obtain ⟨S, hR, _⟩ := hW.item (i := .row KI 3 0 (.slice A8 s.length c8) s) memH
    rcases row_form hR with ⟨c, e, e0⟩ | ⟨hd, c, e⟩
    · exact ⟨none, by rw [e0]; rfl, hW⟩
    · injection e with e1
      exact ⟨some hd, e1, hW⟩) (fun o hA => ?_)
  rcases o with _ | hd
  · have h0 : s.length = 0 := hA
    have hs0 : s = [] := List.length_eq_zero_iff.1 h0
    have hmd : mend f m0 s = s.length := by rw [hs0]; rfl
    refine Cj.loopP (ι := Unit) (fun _ => True) (fun _ => [(1, .slice A1 l.length c1), (2, .int .i64 m0), (3, .pointer (some ⟨gc, 0, none⟩)), (8, .slice A8 s.length c8)]) (fun _ => [.row KI 3 0 (.slice A8 s.length c8) s, .box gc 26 [.int .i64 wd, .int .i64 ht, .slice A0 cs.length c0]]) (fun _ => [(fun W => Kd.C (Kd.int .i64) W A0 cs.length cs), (fun W => Kd.C k76 W A1 l.length l)]) (fun _ => 0) rfl () trivial ⟨rfl, rfl, rfl, rfl, trivial⟩ (by repeat (first | exact .nil | refine Pick.cons (by repeat (first | exact .z | apply OutAt.s)) ?_)) (fun p hp => hp) (fun q hq => ?_)
    repeat (first
    | (apply gateO; first
      | refine Jl.yd (Y.mv rfl rfl) rfl rfl rfl ?_
      | refine Jl.yd (Y.asg rfl rfl) rfl rfl rfl ?_
      | refine Jl.yd (Y.ext rfl rfl rfl) rfl rfl rfl ?_
      | refine Jl.yd (Y.pickT rfl rfl rfl) rfl rfl rfl ?_
      | refine Jl.yd (Y.pickF rfl rfl rfl) rfl rfl rfl ?_
      | refine Jl.off rfl rfl rfl ?_
      | refine Jl.yd (Y.cmpF rfl rfl rfl rfl (by omega)) rfl rfl rfl ?_
      | refine Jl.yd (Y.cmpT rfl rfl rfl rfl (by omega)) rfl rfl rfl ?_
      | refine Jl.yd (Y.neqB rfl rfl rfl Try.underlying4) rfl rfl rfl ?_
      | refine Jl.yd (Y.cmp rfl rfl rfl rfl) rfl rfl rfl ?_
      | refine Jl.yd (Y.not rfl rfl) rfl rfl rfl ?_
      | refine Jl.yd (Y.arithN rfl rfl rfl rfl (by omega)) rfl rfl rfl ?_
      | refine Jl.yd (Y.arith64 rfl rfl rfl rfl) rfl rfl rfl ?_
      | refine Jl.yd (Y.loadA rfl rfl agg26 (by repeat (first | exact .head _ | refine .tail _ ?_)) (by rfl)) rfl rfl rfl ?_
      | refine Jl.yd (Y.lenS Try.underlying65 rfl rfl rfl) rfl rfl rfl ?_
      | refine Jl.yd (Y.lenS Try.underlying24 rfl rfl rfl) rfl rfl rfl ?_
      | refine Jl.yd (Y.idx rfl rfl rfl el24 (by omega) (by omega)) rfl rfl rfl ?_
      | refine Jl.yd (Y.loadRI rfl rfl sc3 (by repeat (first | exact .head _ | refine .tail _ ?_)) (o : Int) (by omega) (by omega) (by omega)) rfl rfl rfl ?_
      | refine Jl.yd (Y.idx rfl rfl rfl el65 (by omega) (by omega)) rfl rfl rfl ?_
      | refine Jl.yd (Y.loadK z76 [.int .i64 x.f0, .int .i64 x.f1, .int .i64 x.f2, .int .i64 x.f3] rfl rfl agg76 (by repeat (first | exact .head _ | refine .tail _ ?_)) ((s.getD (o : Int).toNat 0)) (by omega) (by omega) (by rfl) (fun w cs h => (k76_open h).trans hux) (by rfl)) rfl rfl rfl ?_
      | refine Jl.call1 (v := .int .i64 (mm wd cs x)) rfl rfl rfl rfl en122 rfl (fun w hW => by with_reducible exact minutes hg' hxo A0 c0 w (hW.fact (p := (fun W => Kd.C (Kd.int .i64) W A0 cs.length cs)) (by repeat (first | exact memH | refine memT ?_))) hc) ?_
      | refine Jl.yd (Y.sliFrom rfl rfl rfl el24 (by omega) (by omega)) rfl rfl rfl ?_
      | refine Jl.callM (.row KI 3 0 (.slice A8 s.length c8) s) (.row KI 3 0 (.slice A8 s.length c8) s) (v := .tuple #[]) rfl rfl rfl rfl en89 rfl (by with_reducible first | exact .z | exact .s .z | exact .s (.s .z) | exact .s (.s (.s .z))) (fun w A hW hA => sortN hA h0) ?_
      | refine Jl.lit0 k76 rfl rfl rfl rfl el65 (fun gr => ?_)
      | refine Jl.splitG rfl rfl (fun h => ?_) (fun h => ?_))
    | (apply gateE; first
      | refine Jl.nil (Ej.go ?_ (fun _ _ h => h))
      | (refine Jl.nil (Ej.back (fun _ _ h => h) (by repeat (first | exact .refl | apply DropTo.tail)) ?_); repeat (first | exact trivial | refine ⟨rfl, ?_⟩)))
    | (apply gateC; first
      | refine Cj.block rfl ?_
      | refine Cj.regionD rfl (mkD [0, 1, 2, 3, 4, 5, 6, 7, 8, 9, 10, 11, 13, 14] []) [] [0, 1, 2, 3, 4, 5, 6, 7, 8, 9, 10, 12, 11, 13, 14] mixed (by decide +kernel) ?_
      | refine Cj.regionD rfl (mkD [0, 1, 2, 3, 4, 5, 6, 7, 9, 10] []) [] [0, 1, 2, 3, 4, 5, 6, 7, 8, 9, 10] mixed (by decide +kernel) ?_
      | refine Cj.condF rfl rfl (Cj.skip rfl (Ej.go ?_ (fun _ _ h => h)))
      | (refine Cj.condF rfl rfl (Cj.skip rfl (Ej.back (fun _ _ h => h) (by repeat (first | exact .refl | apply DropTo.tail)) ?_)); repeat (first | exact trivial | refine ⟨rfl, ?_⟩))
      | refine Cj.condF rfl rfl ?_
      | refine Cj.condT rfl rfl ?_
      | refine Cj.exit rfl (Ej.go ?_ (fun _ _ h => h))
      | refine Cj.cond rfl rfl (fun h => ?_) (fun h => ?_)
      | refine Cj.skip rfl (Ej.go ?_ (fun _ _ h => h))
      | (refine Cj.skip rfl (Ej.back (fun _ _ h => h) (by repeat (first | exact .refl | apply DropTo.tail)) ?_); repeat (first | exact trivial | refine ⟨rfl, ?_⟩))
      | refine Cj.seq rfl ?_
      | refine Cj.region rfl ?_))
    refine Cj.loopP (ι := Unit) (fun _ => True) (fun _ => [(10, .slice (some ⟨gr, 0, none⟩) ([] : List S76).length 0), (57, .int .i64 (s.length : Int)), (58, .int .i64 0)]) (fun _ => [.row k76 76 0 (.slice (some ⟨gr, 0, none⟩) ([] : List S76).length 0) []]) (fun _ => []) (fun _ => 0) rfl () trivial ⟨rfl, rfl, rfl, trivial⟩ (by repeat (first | exact .nil | refine Pick.cons (by repeat (first | exact .z | apply OutAt.s)) ?_)) (fun p hp => by cases hp) (fun q hq => ?_)
    repeat (first
    | (apply gateO; first
      | refine Jl.yd (Y.mv rfl rfl) rfl rfl rfl ?_
      | refine Jl.yd (Y.asg rfl rfl) rfl rfl rfl ?_
      | refine Jl.yd (Y.ext rfl rfl rfl) rfl rfl rfl ?_
      | refine Jl.yd (Y.pickT rfl rfl rfl) rfl rfl rfl ?_
      | refine Jl.yd (Y.pickF rfl rfl rfl) rfl rfl rfl ?_
      | refine Jl.off rfl rfl rfl ?_
      | refine Jl.yd (Y.cmpF rfl rfl rfl rfl (by omega)) rfl rfl rfl ?_
      | refine Jl.yd (Y.cmpT rfl rfl rfl rfl (by omega)) rfl rfl rfl ?_
      | refine Jl.yd (Y.neqB rfl rfl rfl Try.underlying4) rfl rfl rfl ?_
      | refine Jl.yd (Y.cmp rfl rfl rfl rfl) rfl rfl rfl ?_
      | refine Jl.yd (Y.not rfl rfl) rfl rfl rfl ?_
      | refine Jl.yd (Y.arithN rfl rfl rfl rfl (by omega)) rfl rfl rfl ?_
      | refine Jl.yd (Y.arith64 rfl rfl rfl rfl) rfl rfl rfl ?_
      | refine Jl.yd (Y.loadA rfl rfl agg26 (by repeat (first | exact .head _ | refine .tail _ ?_)) (by rfl)) rfl rfl rfl ?_
      | refine Jl.yd (Y.lenS Try.underlying65 rfl rfl rfl) rfl rfl rfl ?_
      | refine Jl.yd (Y.lenS Try.underlying24 rfl rfl rfl) rfl rfl rfl ?_
      | refine Jl.splitG rfl rfl (fun h => ?_) (fun h => ?_))
    | (apply gateE; first
      | refine Jl.nil (Ej.go ?_ (fun _ _ h => h))
      | (refine Jl.nil (Ej.back (fun _ _ h => h) (by repeat (first | exact .refl | apply DropTo.tail)) ?_); repeat (first | exact trivial | refine ⟨rfl, ?_⟩)))
    | (apply gateC; first
      | refine Cj.block rfl ?_
      | refine Cj.ret rfl (Ej.out2 (P := Try.prog) (fn := Try.f56) (R := Rr) (fun _ _ h => h) rfl rfl rfl (fun w' hW => ⟨_, rfl, by rw [show s.drop (mend f m0 s) = [] by rw [hmd, List.drop_length], show sortI [] = [] by simp [sortI]]; exact outH hW (by repeat (first | exact .nil | refine Pick.cons (by repeat (first | exact .z | apply OutAt.s)) ?_)), hW.below⟩))
      | refine Cj.condF rfl rfl (Cj.skip rfl (Ej.go ?_ (fun _ _ h => h)))
      | (refine Cj.condF rfl rfl (Cj.skip rfl (Ej.back (fun _ _ h => h) (by repeat (first | exact .refl | apply DropTo.tail)) ?_)); repeat (first | exact trivial | refine ⟨rfl, ?_⟩))
      | refine Cj.condF rfl rfl ?_
      | refine Cj.condT rfl rfl ?_
      | refine Cj.exit rfl (Ej.go ?_ (fun _ _ h => h))
      | refine Cj.cond rfl rfl (fun h => ?_) (fun h => ?_)
      | refine Cj.skip rfl (Ej.go ?_ (fun _ _ h => h))
      | (refine Cj.skip rfl (Ej.back (fun _ _ h => h) (by repeat (first | exact .refl | apply DropTo.tail)) ?_); repeat (first | exact trivial | refine ⟨rfl, ?_⟩))
      | refine Cj.seq rfl ?_
      | refine Cj.region rfl ?_))
  · obtain rfl : A8 = some ⟨hd, 0, none⟩ := hA
    refine Cj.loopP (ι := Nat × Nat × Int) (fun q => (q.1 ≤ s.length ∧ q.2.1 ≤ q.1 ∧ (q.1 < s.length → q.2.1 = q.1)) ∧ mend f m0 s = q.1 + mend f q.2.2 (s.drop q.1) ∧ 0 ≤ q.2.2 ∧ q.2.2 ≤ 10000) (fun q => [(1, .slice A1 l.length c1), (2, .int .i64 q.2.2), (3, .pointer (some ⟨gc, 0, none⟩)), (8, .slice (some ⟨hd, q.2.1, none⟩) (s.length - q.1) (c8 - q.1))]) (fun _ => [.row KI 3 0 (.slice (some ⟨hd, 0, none⟩) s.length c8) s, .box gc 26 [.int .i64 wd, .int .i64 ht, .slice A0 cs.length c0]]) (fun _ => [(fun W => Kd.C (Kd.int .i64) W A0 cs.length cs), (fun W => Kd.C k76 W A1 l.length l)]) (fun q => s.length - q.1) rfl (0, 0, m0) ⟨⟨Nat.zero_le _, Nat.le_refl _, fun _ => rfl⟩, by simp, hin2⟩ ⟨rfl, rfl, rfl, rfl, trivial⟩ (by repeat (first | exact .nil | refine Pick.cons (by repeat (first | exact .z | apply OutAt.s)) ?_)) (fun p hp => hp) (fun q hq => ?_)
    obtain ⟨q, o, m⟩ := q
    dsimp only at hq ⊢
    obtain ⟨⟨hqs, hoq, hqo⟩, hmq, hm0, hm1⟩ := hq
    by_cases hlt : q < s.length
    · obtain rfl := hqo hlt
      obtain ⟨ad, rfl⟩ : ∃ ad, A1 = some ad := by
        obtain ⟨ad, e, _⟩ := hrH.2.2 (by omega)
        exact ⟨ad, e⟩
      obtain ⟨a, ha⟩ : ∃ a, s[o]? = some a := ⟨_, List.getElem?_eq_getElem hlt⟩
      obtain ⟨i, hi, rfl⟩ := hsm a (List.mem_of_getElem? ha)
      have hgd : s.getD ((o : Int)).toNat 0 = (i : Int) := by rw [Int.toNat_natCast, List.getD_eq_getElem?_getD, ha]; rfl
      obtain ⟨x, hx⟩ : ∃ x, nth l i z76 = x := ⟨_, rfl⟩
      have hxo : okH wd ht x = true := hx ▸ ho i hi
      have hfx : f (i : Int) = mm wd cs x := by rw [← hf]; show mm wd cs (nth l ((i : Int)).toNat z76) = _; rw [Int.toNat_natCast, hx]
      obtain ⟨mq1, mq2⟩ := mendQ hmq ha
      rw [hfx] at mq1 mq2
      obtain ⟨_, _, _, _, b1, b2⟩ := lostE hg' hxo
      have hux : ([.int .i64 (l.getD (s.getD (o : Int).toNat 0).toNat z76).f0, .int .i64 (l.getD (s.getD (o : Int).toNat 0).toNat z76).f1, .int .i64 (l.getD (s.getD (o : Int).toNat 0).toNat z76).f2, .int .i64 (l.getD (s.getD (o : Int).toNat 0).toNat z76).f3] : List Value) = [.int .i64 x.f0, .int .i64 x.f1, .int .i64 x.f2, .int .i64 x.f3] := by
        have hx2 : l.getD i z76 = x := hx
        rw [hgd, Int.toNat_natCast, hx2]
      by_cases hle : mm wd cs x ≤ m
      · repeat (first
    | (apply gateO; first
      | refine Jl.yd (Y.mv rfl rfl) rfl rfl rfl ?_
      | refine Jl.yd (Y.asg rfl rfl) rfl rfl rfl ?_
      | refine Jl.yd (Y.ext rfl rfl rfl) rfl rfl rfl ?_
      | refine Jl.yd (Y.pickT rfl rfl rfl) rfl rfl rfl ?_
      | refine Jl.yd (Y.pickF rfl rfl rfl) rfl rfl rfl ?_
      | refine Jl.off rfl rfl rfl ?_
      | refine Jl.yd (Y.cmpF rfl rfl rfl rfl (by omega)) rfl rfl rfl ?_
      | refine Jl.yd (Y.cmpT rfl rfl rfl rfl (by omega)) rfl rfl rfl ?_
      | refine Jl.yd (Y.neqB rfl rfl rfl Try.underlying4) rfl rfl rfl ?_
      | refine Jl.yd (Y.cmp rfl rfl rfl rfl) rfl rfl rfl ?_
      | refine Jl.yd (Y.not rfl rfl) rfl rfl rfl ?_
      | refine Jl.yd (Y.arithN rfl rfl rfl rfl (by omega)) rfl rfl rfl ?_
      | refine Jl.yd (Y.arith64 rfl rfl rfl rfl) rfl rfl rfl ?_
      | refine Jl.yd (Y.loadA rfl rfl agg26 (by repeat (first | exact .head _ | refine .tail _ ?_)) (by rfl)) rfl rfl rfl ?_
      | refine Jl.yd (Y.lenS Try.underlying65 rfl rfl rfl) rfl rfl rfl ?_
      | refine Jl.yd (Y.lenS Try.underlying24 rfl rfl rfl) rfl rfl rfl ?_
      | refine Jl.yd (Y.idx rfl rfl rfl el24 (by omega) (by omega)) rfl rfl rfl ?_
      | refine Jl.yd (Y.loadRI rfl rfl sc3 (by repeat (first | exact .head _ | refine .tail _ ?_)) (o : Int) (by omega) (by omega) (by omega)) rfl rfl rfl ?_
      | refine Jl.yd (Y.idx rfl rfl rfl el65 (by omega) (by omega)) rfl rfl rfl ?_
      | refine Jl.yd (Y.loadK z76 [.int .i64 x.f0, .int .i64 x.f1, .int .i64 x.f2, .int .i64 x.f3] rfl rfl agg76 (by repeat (first | exact .head _ | refine .tail _ ?_)) ((s.getD (o : Int).toNat 0)) (by omega) (by omega) (by rfl) (fun w cs h => (k76_open h).trans hux) (by rfl)) rfl rfl rfl ?_
      | refine Jl.call1 (v := .int .i64 (mm wd cs x)) rfl rfl rfl rfl en122 rfl (fun w hW => by with_reducible exact minutes hg' hxo A0 c0 w (hW.fact (p := (fun W => Kd.C (Kd.int .i64) W A0 cs.length cs)) (by repeat (first | exact memH | refine memT ?_))) hc) ?_
      | refine Jl.yd (Y.sliFrom rfl rfl rfl el24 (by omega) (by omega)) rfl rfl rfl ?_
      | refine Jl.splitG rfl rfl (fun h => ?_) (fun h => ?_))
    | (apply gateE; first
      | refine Jl.nil (Ej.go ?_ (fun _ _ h => h))
      | (refine Jl.nil (Ej.back (fun _ _ h => h) (by repeat (first | exact .refl | apply DropTo.tail)) ?_); repeat (first | exact trivial | refine ⟨rfl, ?_⟩)))
    | (apply gateC; first
      | refine Cj.block rfl ?_
      | refine Cj.regionD rfl (mkD [0, 1, 2, 3, 4, 5, 6, 7, 8, 9, 10, 11, 13, 14] []) [] [0, 1, 2, 3, 4, 5, 6, 7, 8, 9, 10, 12, 11, 13, 14] mixed (by decide +kernel) ?_
      | refine Cj.regionD rfl (mkD [0, 1, 2, 3, 4, 5, 6, 7, 9, 10] []) [] [0, 1, 2, 3, 4, 5, 6, 7, 8, 9, 10] mixed (by decide +kernel) ?_
      | refine Cj.condF rfl rfl (Cj.skip rfl (Ej.go ?_ (fun _ _ h => h)))
      | (refine Cj.condF rfl rfl (Cj.skip rfl (Ej.back (fun _ _ h => h) (by repeat (first | exact .refl | apply DropTo.tail)) ?_)); repeat (first | exact trivial | refine ⟨rfl, ?_⟩))
      | refine Cj.condF rfl rfl ?_
      | refine Cj.condT rfl rfl ?_
      | refine Cj.exit rfl (Ej.go ?_ (fun _ _ h => h))
      | refine Cj.cond rfl rfl (fun h => ?_) (fun h => ?_)
      | refine Cj.skip rfl (Ej.go ?_ (fun _ _ h => h))
      | (refine Cj.skip rfl (Ej.back (fun _ _ h => h) (by repeat (first | exact .refl | apply DropTo.tail)) ?_); repeat (first | exact trivial | refine ⟨rfl, ?_⟩))
      | refine Cj.seq rfl ?_
      | refine Cj.region rfl ?_))
        refine Jl.nil (Ej.cutP (ι := Nat × Nat × Int) _ _ _ _ (fun _ _ h => h) (o + 1, if c8 - o = 1 then o else o + 1, m - mm wd cs x) ⟨⟨⟨by (try dsimp only); omega, by dsimp only; split <;> omega, fun h => ?_⟩, mq1 hle, by dsimp only; omega, by dsimp only; omega⟩, by dsimp only; omega⟩ ⟨rfl, rfl, rfl, congrArg some (tail1 hd o s.length c8), trivial⟩ (by repeat (first | exact .nil | refine Pick.cons (by repeat (first | exact .z | apply OutAt.s)) ?_)) (fun p hp => hp))
        dsimp only at h ⊢
        rw [if_neg (by omega)]
      · have hmd := mq2 hle
        obtain ⟨ys, hys⟩ : ∃ ys, s.drop o = ys := ⟨_, rfl⟩
        have hyl : ys.length = s.length - o := by rw [← hys, List.length_drop]
        obtain ⟨R, hR⟩ : ∃ R, s.take o ++ sortI ys ++ s.drop (o + ys.length) = R := ⟨_, rfl⟩
        have hsrt : ∀ c w A, (Go.Proofs.YtkglpfdoefdhdaaW.SL.Item.row KI 3 0 (.slice (some ⟨hd, 0, none⟩) s.length c8) s).p w A → _ := fun c w A hA => sortT hd o (s.length - o) c s.length c8 s ys rfl (by omega) (by omega) (fun j hj => by rw [← hys, List.getElem?_drop]) w A hA (by omega)
        rw [hR] at hsrt
        repeat (first
    | (apply gateO; first
      | refine Jl.yd (Y.mv rfl rfl) rfl rfl rfl ?_
      | refine Jl.yd (Y.asg rfl rfl) rfl rfl rfl ?_
      | refine Jl.yd (Y.ext rfl rfl rfl) rfl rfl rfl ?_
      | refine Jl.yd (Y.pickT rfl rfl rfl) rfl rfl rfl ?_
      | refine Jl.yd (Y.pickF rfl rfl rfl) rfl rfl rfl ?_
      | refine Jl.off rfl rfl rfl ?_
      | refine Jl.yd (Y.cmpF rfl rfl rfl rfl (by omega)) rfl rfl rfl ?_
      | refine Jl.yd (Y.cmpT rfl rfl rfl rfl (by omega)) rfl rfl rfl ?_
      | refine Jl.yd (Y.neqB rfl rfl rfl Try.underlying4) rfl rfl rfl ?_
      | refine Jl.yd (Y.cmp rfl rfl rfl rfl) rfl rfl rfl ?_
      | refine Jl.yd (Y.not rfl rfl) rfl rfl rfl ?_
      | refine Jl.yd (Y.arithN rfl rfl rfl rfl (by omega)) rfl rfl rfl ?_
      | refine Jl.yd (Y.arith64 rfl rfl rfl rfl) rfl rfl rfl ?_
      | refine Jl.yd (Y.loadA rfl rfl agg26 (by repeat (first | exact .head _ | refine .tail _ ?_)) (by rfl)) rfl rfl rfl ?_
      | refine Jl.yd (Y.lenS Try.underlying65 rfl rfl rfl) rfl rfl rfl ?_
      | refine Jl.yd (Y.lenS Try.underlying24 rfl rfl rfl) rfl rfl rfl ?_
      | refine Jl.yd (Y.idx rfl rfl rfl el24 (by omega) (by omega)) rfl rfl rfl ?_
      | refine Jl.yd (Y.loadRI rfl rfl sc3 (by repeat (first | exact .head _ | refine .tail _ ?_)) (o : Int) (by omega) (by omega) (by omega)) rfl rfl rfl ?_
      | refine Jl.yd (Y.idx rfl rfl rfl el65 (by omega) (by omega)) rfl rfl rfl ?_
      | refine Jl.yd (Y.loadK z76 [.int .i64 x.f0, .int .i64 x.f1, .int .i64 x.f2, .int .i64 x.f3] rfl rfl agg76 (by repeat (first | exact .head _ | refine .tail _ ?_)) ((s.getD (o : Int).toNat 0)) (by omega) (by omega) (by rfl) (fun w cs h => (k76_open h).trans hux) (by rfl)) rfl rfl rfl ?_
      | refine Jl.call1 (v := .int .i64 (mm wd cs x)) rfl rfl rfl rfl en122 rfl (fun w hW => by with_reducible exact minutes hg' hxo A0 c0 w (hW.fact (p := (fun W => Kd.C (Kd.int .i64) W A0 cs.length cs)) (by repeat (first | exact memH | refine memT ?_))) hc) ?_
      | refine Jl.yd (Y.sliFrom rfl rfl rfl el24 (by omega) (by omega)) rfl rfl rfl ?_
      | refine Jl.callM (.row KI 3 0 (.slice (some ⟨hd, 0, none⟩) s.length c8) s) (.row KI 3 0 (.slice (some ⟨hd, 0, none⟩) s.length c8) R) (v := .tuple #[]) rfl rfl rfl rfl en89 rfl (by with_reducible first | exact .z | exact .s .z | exact .s (.s .z) | exact .s (.s (.s .z))) (fun w A hW hA => hsrt _ w A hA) ?_
      | refine Jl.lit0 k76 rfl rfl rfl rfl el65 (fun gr => ?_)
      | refine Jl.splitG rfl rfl (fun h => ?_) (fun h => ?_))
    | (apply gateE; first
      | refine Jl.nil (Ej.go ?_ (fun _ _ h => h))
      | (refine Jl.nil (Ej.back (fun _ _ h => h) (by repeat (first | exact .refl | apply DropTo.tail)) ?_); repeat (first | exact trivial | refine ⟨rfl, ?_⟩)))
    | (apply gateC; first
      | refine Cj.block rfl ?_
      | refine Cj.regionD rfl (mkD [0, 1, 2, 3, 4, 5, 6, 7, 8, 9, 10, 11, 13, 14] []) [] [0, 1, 2, 3, 4, 5, 6, 7, 8, 9, 10, 12, 11, 13, 14] mixed (by decide +kernel) ?_
      | refine Cj.regionD rfl (mkD [0, 1, 2, 3, 4, 5, 6, 7, 9, 10] []) [] [0, 1, 2, 3, 4, 5, 6, 7, 8, 9, 10] mixed (by decide +kernel) ?_
      | refine Cj.condF rfl rfl (Cj.skip rfl (Ej.go ?_ (fun _ _ h => h)))
      | (refine Cj.condF rfl rfl (Cj.skip rfl (Ej.back (fun _ _ h => h) (by repeat (first | exact .refl | apply DropTo.tail)) ?_)); repeat (first | exact trivial | refine ⟨rfl, ?_⟩))
      | refine Cj.condF rfl rfl ?_
      | refine Cj.condT rfl rfl ?_
      | refine Cj.exit rfl (Ej.go ?_ (fun _ _ h => h))
      | refine Cj.cond rfl rfl (fun h => ?_) (fun h => ?_)
      | refine Cj.skip rfl (Ej.go ?_ (fun _ _ h => h))
      | (refine Cj.skip rfl (Ej.back (fun _ _ h => h) (by repeat (first | exact .refl | apply DropTo.tail)) ?_); repeat (first | exact trivial | refine ⟨rfl, ?_⟩))
      | refine Cj.seq rfl ?_
      | refine Cj.region rfl ?_))
        obtain ⟨t, hts⟩ : ∃ t, sortI ys = t := ⟨_, rfl⟩
        have htl : t.length = s.length - o := by rw [← hts, sortI_len, hyl]
        refine Cj.loopP (ι := Nat × Option Addr × Nat) (fun p => p.1 ≤ t.length ∧ (p.1 = 0 ∨ 0 ≤ p.2.2)) (fun p => [(1, .slice (some ad) l.length c1), (10, .slice p.2.1 (((t.take p.1).map fun a => nth l a.toNat z76) : List S76).length p.2.2), (56, .slice (some ⟨hd, o, none⟩) (s.length - o) (c8 - o)), (57, .int .i64 ((s.length - o : Nat) : Int)), (58, .int .i64 (p.1 : Int))]) (fun p => [.row k76 76 0 (.slice p.2.1 (((t.take p.1).map fun a => nth l a.toNat z76) : List S76).length p.2.2) (((t.take p.1).map fun a => nth l a.toNat z76)), .row KI 3 0 (.slice (some ⟨hd, 0, none⟩) s.length c8) R]) (fun _ => [(fun W => Kd.C k76 W (some ad) l.length l)]) (fun p => t.length - p.1) rfl (0, some ⟨gr, 0, none⟩, 0) ⟨Nat.zero_le _, .inl rfl⟩ ⟨rfl, rfl, rfl, rfl, rfl, trivial⟩ (by repeat (first | exact .nil | refine Pick.cons (by repeat (first | exact .z | apply OutAt.s)) ?_)) (fun p hp => by rw [List.mem_singleton.1 hp]; exact (by repeat (first | exact memH | refine memT ?_))) (fun p hp => ?_)
        obtain ⟨j, Ar, cr⟩ := p
        dsimp only at hp ⊢
        obtain ⟨hj, _⟩ := hp
        have hal : ((t.take j).map fun a => nth l a.toNat z76).length = j := by rw [List.length_map, List.length_take]; omega
        by_cases hjt : j < t.length
        · obtain ⟨b, hb⟩ : ∃ b, t[j]? = some b := ⟨_, List.getElem?_eq_getElem hjt⟩
          have hbm : b ∈ ys := ((List.mergeSort_perm _ _).mem_iff).1 (show b ∈ sortI ys from hts ▸ List.mem_of_getElem? hb)
          obtain ⟨i2, hi2, rfl⟩ := hsm b (List.mem_of_mem_drop (hys ▸ hbm))
          have hRj : R.getD ((o + j : Nat) : Int).toNat 0 = (i2 : Int) := by
            rw [Int.toNat_natCast, List.getD_eq_getElem?_getD, ← hR, List.append_assoc, List.getElem?_append_right (by rw [List.length_take]; omega), List.length_take, show o + j - min o s.length = j by omega, hts, List.getElem?_append_left hjt, hb]; rfl
          clear hux hx
          obtain ⟨x, hx⟩ : ∃ x, nth l i2 z76 = x := ⟨_, rfl⟩
          have hux : ([.int .i64 (l.getD (R.getD ((o + j : Nat) : Int).toNat 0).toNat z76).f0, .int .i64 (l.getD (R.getD ((o + j : Nat) : Int).toNat 0).toNat z76).f1, .int .i64 (l.getD (R.getD ((o + j : Nat) : Int).toNat 0).toNat z76).f2, .int .i64 (l.getD (R.getD ((o + j : Nat) : Int).toNat 0).toNat z76).f3] : List Value) = [.int .i64 x.f0, .int .i64 x.f1, .int .i64 x.f2, .int .i64 x.f3] := by
            have hx2 : l.getD i2 z76 = x := hx
            rw [hRj, Int.toNat_natCast, hx2]
          have hacc : (t.take (j + 1)).map (fun a => nth l a.toNat z76) = (t.take j).map (fun a => nth l a.toNat z76) ++ [x] := by
            rw [List.take_add_one, hb, List.map_append]
            show _ ++ [nth l ((i2 : Int)).toNat z76] = _
            rw [Int.toNat_natCast, hx]
          repeat (first
    | (apply gateO; first
      | refine Jl.yd (Y.mv rfl rfl) rfl rfl rfl ?_
      | refine Jl.yd (Y.asg rfl rfl) rfl rfl rfl ?_
      | refine Jl.yd (Y.ext rfl rfl rfl) rfl rfl rfl ?_
      | refine Jl.yd (Y.pickT rfl rfl rfl) rfl rfl rfl ?_
      | refine Jl.yd (Y.pickF rfl rfl rfl) rfl rfl rfl ?_
      | refine Jl.off rfl rfl rfl ?_
      | refine Jl.yd (Y.cmpF rfl rfl rfl rfl (by omega)) rfl rfl rfl ?_
      | refine Jl.yd (Y.cmpT rfl rfl rfl rfl (by omega)) rfl rfl rfl ?_
      | refine Jl.yd (Y.neqB rfl rfl rfl Try.underlying4) rfl rfl rfl ?_
      | refine Jl.yd (Y.cmp rfl rfl rfl rfl) rfl rfl rfl ?_
      | refine Jl.yd (Y.not rfl rfl) rfl rfl rfl ?_
      | refine Jl.yd (Y.arithN rfl rfl rfl rfl (by omega)) rfl rfl rfl ?_
      | refine Jl.yd (Y.arith64 rfl rfl rfl rfl) rfl rfl rfl ?_
      | refine Jl.yd (Y.loadA rfl rfl agg26 (by repeat (first | exact .head _ | refine .tail _ ?_)) (by rfl)) rfl rfl rfl ?_
      | refine Jl.yd (Y.lenS Try.underlying65 rfl rfl rfl) rfl rfl rfl ?_
      | refine Jl.yd (Y.lenS Try.underlying24 rfl rfl rfl) rfl rfl rfl ?_
      | refine Jl.yd (Y.idx rfl rfl rfl el24 (by omega) (by omega)) rfl rfl rfl ?_
      | refine Jl.yd (loadRT rfl rfl sc3 (by repeat (first | exact .head _ | refine .tail _ ?_)) ((o + j : Nat) : Int) (by omega) (by omega) (by omega)) rfl rfl rfl ?_
      | refine Jl.yd (Y.idx rfl rfl rfl el65 (by omega) (by omega)) rfl rfl rfl ?_
      | refine Jl.yd (Y.loadK z76 [.int .i64 x.f0, .int .i64 x.f1, .int .i64 x.f2, .int .i64 x.f3] rfl rfl agg76 (by repeat (first | exact .head _ | refine .tail _ ?_)) ((R.getD ((o + j : Nat) : Int).toNat 0)) (by omega) (by omega) (by rfl) (fun w cs h => (k76_open h).trans hux) (by rfl)) rfl rfl rfl ?_
      | refine Jl.litS (us := [.int .i64 x.f0, .int .i64 x.f1, .int .i64 x.f2, .int .i64 x.f3]) (zs := [.int .i64 0, .int .i64 0, .int .i64 0, .int .i64 0]) rfl rfl rfl rfl rfl el65 zero76 rfl rfl (fill4 _ _ _ _ _ _ _ _) (fun g9 => ?_)
      | refine Jl.app (dk := k76) (xs := ((t.take j).map fun a => nth l a.toNat z76)) x (fun _ => False) rfl rfl rfl rfl rfl rfl ap65 (by repeat (first | exact .head _ | refine .tail _ ?_)) rfl (fun w => k76_mkM w 0 (fun _ => False) x) (encO x) (by repeat (first | exact .z | apply OutAt.s)) (by (try simp only [List.length_append, List.length_cons, List.length_nil, List.length_take, List.length_drop]); omega) (by (try simp only [List.length_append, List.length_cons, List.length_nil, List.length_take, List.length_drop]); omega) (fun A9 c9 h9 => ?_)
      | refine Jl.splitG rfl rfl (fun h => ?_) (fun h => ?_))
    | (apply gateE; first
      | refine Jl.nil (Ej.go ?_ (fun _ _ h => h))
      | (refine Jl.nil (Ej.back (fun _ _ h => h) (by repeat (first | exact .refl | apply DropTo.tail)) ?_); repeat (first | exact trivial | refine ⟨rfl, ?_⟩)))
    | (apply gateC; first
      | refine Cj.block rfl ?_
      | refine Cj.condF rfl rfl (Cj.skip rfl (Ej.go ?_ (fun _ _ h => h)))
      | (refine Cj.condF rfl rfl (Cj.skip rfl (Ej.back (fun _ _ h => h) (by repeat (first | exact .refl | apply DropTo.tail)) ?_)); repeat (first | exact trivial | refine ⟨rfl, ?_⟩))
      | refine Cj.condF rfl rfl ?_
      | refine Cj.condT rfl rfl ?_
      | refine Cj.exit rfl (Ej.go ?_ (fun _ _ h => h))
      | refine Cj.cond rfl rfl (fun h => ?_) (fun h => ?_)
      | refine Cj.skip rfl (Ej.go ?_ (fun _ _ h => h))
      | (refine Cj.skip rfl (Ej.back (fun _ _ h => h) (by repeat (first | exact .refl | apply DropTo.tail)) ?_); repeat (first | exact trivial | refine ⟨rfl, ?_⟩))
      | refine Cj.seq rfl ?_
      | refine Cj.region rfl ?_))
          refine Jl.nil (Ej.cutP (ι := Nat × Option Addr × Nat) _ _ _ _ (fun _ _ h => h) (j + 1, A9, c9) ⟨⟨by dsimp only; omega, .inr (Nat.zero_le _)⟩, by dsimp only; omega⟩ ⟨rfl, by dsimp only; rw [hacc]; rfl, rfl, rfl, rfl, trivial⟩ (by dsimp only; rw [hacc]; exact (by repeat (first | exact .nil | refine Pick.cons (by repeat (first | exact .z | apply OutAt.s)) ?_))) (fun p hp => hp))
        · have hjt2 : j = t.length := by omega
          subst hjt2
          rw [List.take_length]
          repeat (first
    | (apply gateO; first
      | refine Jl.yd (Y.mv rfl rfl) rfl rfl rfl ?_
      | refine Jl.yd (Y.asg rfl rfl) rfl rfl rfl ?_
      | refine Jl.yd (Y.ext rfl rfl rfl) rfl rfl rfl ?_
      | refine Jl.yd (Y.pickT rfl rfl rfl) rfl rfl rfl ?_
      | refine Jl.yd (Y.pickF rfl rfl rfl) rfl rfl rfl ?_
      | refine Jl.off rfl rfl rfl ?_
      | refine Jl.yd (Y.cmpF rfl rfl rfl rfl (by omega)) rfl rfl rfl ?_
      | refine Jl.yd (Y.cmpT rfl rfl rfl rfl (by omega)) rfl rfl rfl ?_
      | refine Jl.yd (Y.neqB rfl rfl rfl Try.underlying4) rfl rfl rfl ?_
      | refine Jl.yd (Y.cmp rfl rfl rfl rfl) rfl rfl rfl ?_
      | refine Jl.yd (Y.not rfl rfl) rfl rfl rfl ?_
      | refine Jl.yd (Y.arithN rfl rfl rfl rfl (by omega)) rfl rfl rfl ?_
      | refine Jl.yd (Y.arith64 rfl rfl rfl rfl) rfl rfl rfl ?_
      | refine Jl.yd (Y.loadA rfl rfl agg26 (by repeat (first | exact .head _ | refine .tail _ ?_)) (by rfl)) rfl rfl rfl ?_
      | refine Jl.yd (Y.lenS Try.underlying65 rfl rfl rfl) rfl rfl rfl ?_
      | refine Jl.yd (Y.lenS Try.underlying24 rfl rfl rfl) rfl rfl rfl ?_
      | refine Jl.splitG rfl rfl (fun h => ?_) (fun h => ?_))
    | (apply gateE; first
      | refine Jl.nil (Ej.go ?_ (fun _ _ h => h))
      | (refine Jl.nil (Ej.back (fun _ _ h => h) (by repeat (first | exact .refl | apply DropTo.tail)) ?_); repeat (first | exact trivial | refine ⟨rfl, ?_⟩)))
    | (apply gateC; first
      | refine Cj.block rfl ?_
      | refine Cj.ret rfl (Ej.out2 (P := Try.prog) (fn := Try.f56) (R := Rr) (fun _ _ h => h) rfl rfl rfl (fun w' hW => ⟨_, rfl, by rw [hmd, hys, hts]; exact outH hW (by repeat (first | exact .nil | refine Pick.cons (by repeat (first | exact .z | apply OutAt.s)) ?_)), hW.below⟩))
      | refine Cj.condF rfl rfl (Cj.skip rfl (Ej.go ?_ (fun _ _ h => h)))
      | (refine Cj.condF rfl rfl (Cj.skip rfl (Ej.back (fun _ _ h => h) (by repeat (first | exact .refl | apply DropTo.tail)) ?_)); repeat (first | exact trivial | refine ⟨rfl, ?_⟩))
      | refine Cj.condF rfl rfl ?_
      | refine Cj.condT rfl rfl ?_
      | refine Cj.exit rfl (Ej.go ?_ (fun _ _ h => h))
      | refine Cj.cond rfl rfl (fun h => ?_) (fun h => ?_)
      | refine Cj.skip rfl (Ej.go ?_ (fun _ _ h => h))
      | (refine Cj.skip rfl (Ej.back (fun _ _ h => h) (by repeat (first | exact .refl | apply DropTo.tail)) ?_); repeat (first | exact trivial | refine ⟨rfl, ?_⟩))
      | refine Cj.seq rfl ?_
      | refine Cj.region rfl ?_))
    · obtain rfl : q = s.length := by omega
      have hmd : mend f m0 s = s.length := by rw [hmq, List.drop_length]; rfl
      repeat (first
    | (apply gateO; first
      | refine Jl.yd (Y.mv rfl rfl) rfl rfl rfl ?_
      | refine Jl.yd (Y.asg rfl rfl) rfl rfl rfl ?_
      | refine Jl.yd (Y.ext rfl rfl rfl) rfl rfl rfl ?_
      | refine Jl.yd (Y.pickT rfl rfl rfl) rfl rfl rfl ?_
      | refine Jl.yd (Y.pickF rfl rfl rfl) rfl rfl rfl ?_
      | refine Jl.off rfl rfl rfl ?_
      | refine Jl.yd (Y.cmpF rfl rfl rfl rfl (by omega)) rfl rfl rfl ?_
      | refine Jl.yd (Y.cmpT rfl rfl rfl rfl (by omega)) rfl rfl rfl ?_
      | refine Jl.yd (Y.neqB rfl rfl rfl Try.underlying4) rfl rfl rfl ?_
      | refine Jl.yd (Y.cmp rfl rfl rfl rfl) rfl rfl rfl ?_
      | refine Jl.yd (Y.not rfl rfl) rfl rfl rfl ?_
      | refine Jl.yd (Y.arithN rfl rfl rfl rfl (by omega)) rfl rfl rfl ?_
      | refine Jl.yd (Y.arith64 rfl rfl rfl rfl) rfl rfl rfl ?_
      | refine Jl.yd (Y.loadA rfl rfl agg26 (by repeat (first | exact .head _ | refine .tail _ ?_)) (by rfl)) rfl rfl rfl ?_
      | refine Jl.yd (Y.lenS Try.underlying65 rfl rfl rfl) rfl rfl rfl ?_
      | refine Jl.yd (Y.lenS Try.underlying24 rfl rfl rfl) rfl rfl rfl ?_
      | refine Jl.yd (Y.idx rfl rfl rfl el24 (by omega) (by omega)) rfl rfl rfl ?_
      | refine Jl.yd (Y.loadRI rfl rfl sc3 (by repeat (first | exact .head _ | refine .tail _ ?_)) (o : Int) (by omega) (by omega) (by omega)) rfl rfl rfl ?_
      | refine Jl.yd (Y.idx rfl rfl rfl el65 (by omega) (by omega)) rfl rfl rfl ?_
      | refine Jl.yd (Y.loadK z76 [.int .i64 x.f0, .int .i64 x.f1, .int .i64 x.f2, .int .i64 x.f3] rfl rfl agg76 (by repeat (first | exact .head _ | refine .tail _ ?_)) ((s.getD (o : Int).toNat 0)) (by omega) (by omega) (by rfl) (fun w cs h => (k76_open h).trans hux) (by rfl)) rfl rfl rfl ?_
      | refine Jl.call1 (v := .int .i64 (mm wd cs x)) rfl rfl rfl rfl en122 rfl (fun w hW => by with_reducible exact minutes hg' hxo A0 c0 w (hW.fact (p := (fun W => Kd.C (Kd.int .i64) W A0 cs.length cs)) (by repeat (first | exact memH | refine memT ?_))) hc) ?_
      | refine Jl.yd (Y.sliFrom rfl rfl rfl el24 (by omega) (by omega)) rfl rfl rfl ?_
      | refine Jl.callM (.row KI 3 0 (.slice (some ⟨hd, 0, none⟩) s.length c8) s) (.row KI 3 0 (.slice (some ⟨hd, 0, none⟩) s.length c8) (s.take o ++ sortI [] ++ s.drop (o + ([] : List Int).length))) (v := .tuple #[]) rfl rfl rfl rfl en89 rfl (by with_reducible first | exact .z | exact .s .z | exact .s (.s .z) | exact .s (.s (.s .z))) (fun w A hW hA => sortT hd o _ _ _ _ s [] rfl (by simp) (by simp; omega) (fun j hj => absurd hj (by simp)) w A hA (by omega)) ?_
      | refine Jl.lit0 k76 rfl rfl rfl rfl el65 (fun gr => ?_)
      | refine Jl.splitG rfl rfl (fun h => ?_) (fun h => ?_))
    | (apply gateE; first
      | refine Jl.nil (Ej.go ?_ (fun _ _ h => h))
      | (refine Jl.nil (Ej.back (fun _ _ h => h) (by repeat (first | exact .refl | apply DropTo.tail)) ?_); repeat (first | exact trivial | refine ⟨rfl, ?_⟩)))
    | (apply gateC; first
      | refine Cj.block rfl ?_
      | refine Cj.regionD rfl (mkD [0, 1, 2, 3, 4, 5, 6, 7, 8, 9, 10, 11, 13, 14] []) [] [0, 1, 2, 3, 4, 5, 6, 7, 8, 9, 10, 12, 11, 13, 14] mixed (by decide +kernel) ?_
      | refine Cj.regionD rfl (mkD [0, 1, 2, 3, 4, 5, 6, 7, 9, 10] []) [] [0, 1, 2, 3, 4, 5, 6, 7, 8, 9, 10] mixed (by decide +kernel) ?_
      | refine Cj.condF rfl rfl (Cj.skip rfl (Ej.go ?_ (fun _ _ h => h)))
      | (refine Cj.condF rfl rfl (Cj.skip rfl (Ej.back (fun _ _ h => h) (by repeat (first | exact .refl | apply DropTo.tail)) ?_)); repeat (first | exact trivial | refine ⟨rfl, ?_⟩))
      | refine Cj.condF rfl rfl ?_
      | refine Cj.condT rfl rfl ?_
      | refine Cj.exit rfl (Ej.go ?_ (fun _ _ h => h))
      | refine Cj.cond rfl rfl (fun h => ?_) (fun h => ?_)
      | refine Cj.skip rfl (Ej.go ?_ (fun _ _ h => h))
      | (refine Cj.skip rfl (Ej.back (fun _ _ h => h) (by repeat (first | exact .refl | apply DropTo.tail)) ?_); repeat (first | exact trivial | refine ⟨rfl, ?_⟩))
      | refine Cj.seq rfl ?_
      | refine Cj.region rfl ?_))
      refine Cj.loopP (ι := Unit) (fun _ => True) (fun _ => [(10, .slice (some ⟨gr, 0, none⟩) ([] : List S76).length 0), (57, .int .i64 ((s.length - s.length : Nat) : Int)), (58, .int .i64 0)]) (fun _ => [.row k76 76 0 (.slice (some ⟨gr, 0, none⟩) ([] : List S76).length 0) []]) (fun _ => []) (fun _ => 0) rfl () trivial ⟨rfl, rfl, rfl, trivial⟩ (by repeat (first | exact .nil | refine Pick.cons (by repeat (first | exact .z | apply OutAt.s)) ?_)) (fun p hp => by cases hp) (fun q hq => ?_)
      repeat (first
    | (apply gateO; first
      | refine Jl.yd (Y.mv rfl rfl) rfl rfl rfl ?_
      | refine Jl.yd (Y.asg rfl rfl) rfl rfl rfl ?_
      | refine Jl.yd (Y.ext rfl rfl rfl) rfl rfl rfl ?_
      | refine Jl.yd (Y.pickT rfl rfl rfl) rfl rfl rfl ?_
      | refine Jl.yd (Y.pickF rfl rfl rfl) rfl rfl rfl ?_
      | refine Jl.off rfl rfl rfl ?_
      | refine Jl.yd (Y.cmpF rfl rfl rfl rfl (by omega)) rfl rfl rfl ?_
      | refine Jl.yd (Y.cmpT rfl rfl rfl rfl (by omega)) rfl rfl rfl ?_
      | refine Jl.yd (Y.neqB rfl rfl rfl Try.underlying4) rfl rfl rfl ?_
      | refine Jl.yd (Y.cmp rfl rfl rfl rfl) rfl rfl rfl ?_
      | refine Jl.yd (Y.not rfl rfl) rfl rfl rfl ?_
      | refine Jl.yd (Y.arithN rfl rfl rfl rfl (by omega)) rfl rfl rfl ?_
      | refine Jl.yd (Y.arith64 rfl rfl rfl rfl) rfl rfl rfl ?_
      | refine Jl.yd (Y.loadA rfl rfl agg26 (by repeat (first | exact .head _ | refine .tail _ ?_)) (by rfl)) rfl rfl rfl ?_
      | refine Jl.yd (Y.lenS Try.underlying65 rfl rfl rfl) rfl rfl rfl ?_
      | refine Jl.yd (Y.lenS Try.underlying24 rfl rfl rfl) rfl rfl rfl ?_
      | refine Jl.splitG rfl rfl (fun h => ?_) (fun h => ?_))
    | (apply gateE; first
      | refine Jl.nil (Ej.go ?_ (fun _ _ h => h))
      | (refine Jl.nil (Ej.back (fun _ _ h => h) (by repeat (first | exact .refl | apply DropTo.tail)) ?_); repeat (first | exact trivial | refine ⟨rfl, ?_⟩)))
    | (apply gateC; first
      | refine Cj.block rfl ?_
      | refine Cj.ret rfl (Ej.out2 (P := Try.prog) (fn := Try.f56) (R := Rr) (fun _ _ h => h) rfl rfl rfl (fun w' hW => ⟨_, rfl, by rw [show s.drop (mend f m0 s) = [] by rw [hmd, List.drop_length], show sortI [] = [] by simp [sortI]]; exact outH hW (by repeat (first | exact .nil | refine Pick.cons (by repeat (first | exact .z | apply OutAt.s)) ?_)), hW.below⟩))
      | refine Cj.condF rfl rfl (Cj.skip rfl (Ej.go ?_ (fun _ _ h => h)))
      | (refine Cj.condF rfl rfl (Cj.skip rfl (Ej.back (fun _ _ h => h) (by repeat (first | exact .refl | apply DropTo.tail)) ?_)); repeat (first | exact trivial | refine ⟨rfl, ?_⟩))
      | refine Cj.condF rfl rfl ?_
      | refine Cj.condT rfl rfl ?_
      | refine Cj.exit rfl (Ej.go ?_ (fun _ _ h => h))
      | refine Cj.cond rfl rfl (fun h => ?_) (fun h => ?_)
      | refine Cj.skip rfl (Ej.go ?_ (fun _ _ h => h))
      | (refine Cj.skip rfl (Ej.back (fun _ _ h => h) (by repeat (first | exact .refl | apply DropTo.tail)) ?_); repeat (first | exact trivial | refine ⟨rfl, ?_⟩))
      | refine Cj.seq rfl ?_
      | refine Cj.region rfl ?_))
end FM
end Go.Proofs.Ytkglpfdoefdhdaa.WK

namespace Go.Proofs.Ytkglpfdoefdhdaa.WK
open Go Go.RowKit Go.Proofs.Ytkglpfdoefdhdaa.Q Go.Proofs.Ytkglpfdoefdhdaa.M Go.Proofs.YtkglpfdoefdhdaaW.PrintWords Go.Proofs.YtkglpfdoefdhdaaW.SL
open Go.Proofs.YtkglpfdoefdhdaaW.Pl (nth nth_get)
open Go.Proofs.Ytkglpfdoefdhdaa.M.MN (mm lostL lostE)
set_option linter.unusedSimpArgs false
set_option linter.unusedVariables false
set_option maxRecDepth 100000
namespace MO
theorem en123 : Ent Try.prog 123 := ⟨enters_of Try.func123 (by kernel_rfl) rfl⟩
theorem en120 : Ent Try.prog 120 := ⟨enters_of Try.func120 (by kernel_rfl) rfl⟩
theorem en110 : Ent Try.prog 110 := ⟨enters_of Try.func110 (by kernel_rfl) rfl⟩
theorem minS {wd ht : Int} {cs : List Int} {x : S76} (hg : goodC wd ht cs = true) (hx : okH wd ht x = true) (A0 : Option Addr) (c0 : Nat) (w : World) (hr : Kd.C (Kd.int .i64) w A0 cs.length cs) (hc : cs.length ≤ c0) : Calls Try.prog 123 #[.agg #[.int .i64 wd, .int .i64 ht, .slice A0 cs.length c0], .agg #[.int .i64 x.f0, .int .i64 x.f1, .int .i64 x.f2, .int .i64 x.f3]] w fun e w' => e = .returned (.int .i64 (mm wd cs x)) ∧ Below w.heap.size w w' := by
  obtain ⟨_, e1, _⟩ := lostE hg hx
  obtain ⟨k, hk⟩ := e1.rounds
  exact spec_l23Minutes.calls k wd ht A0 c0 cs x.f0 x.f1 x.f2 x.f3 (mm wd cs x) w hr hc hk
set_option maxHeartbeats 8000000 in
/-- The reference's order of the holes. -/
theorem order_ {wd ht : Int} {cs : List Int} {l : List S76} (A0 : Option Addr) (c0 : Nat) (A1 : Option Addr) (c1 : Nat) (w : World) (hrC : Kd.C (Kd.int .i64) w A0 cs.length cs) (hc : cs.length ≤ c0) (hrH : Kd.C k76 w A1 l.length l) (hcl : l.length ≤ c1) (hg : goodH wd ht cs l = true) : Calls Try.prog 120 #[.agg #[.int .i64 wd, .int .i64 ht, .slice A0 cs.length c0], .slice A1 l.length c1] w fun e w' => ∃ v, e = .returned v ∧ (Kd.int .i64).R 3 w' w.heap.size (fun _ => True) v (ordL wd cs l l.length) ∧ Below w.heap.size w w' := by
  obtain ⟨hg', hl8, ho⟩ := goodHole hg
  let Rr : Ending → World → Prop := fun e w' => ∃ v, e = .returned v ∧ (Kd.int .i64).R 3 w' w.heap.size (fun _ => True) v (ordL wd cs l l.length) ∧ Below w.heap.size w w'
  refine enterW (args := [.agg #[.int .i64 wd, .int .i64 ht, .slice A0 cs.length c0], .slice A1 l.length c1]) [(fun W => Kd.C (Kd.int .i64) W A0 cs.length cs), (fun W => Kd.C k76 W A1 l.length l)] (fun p hp W hb => by
    rcases List.mem_cons.1 hp with rfl | hp
    · exact Kd.C_below hrC hb
    · rw [List.mem_singleton.1 hp]; exact Kd.C_below hrH hb) Try.func120 rfl rfl ?_
  show Cj Try.prog _ _ _ (bodyPost Try.prog Try.f120 Rr) _ _ _
  repeat (first
    | (apply gateO; first
      | refine Jl.yd (Y.mv rfl rfl) rfl rfl rfl ?_
      | refine Jl.yd (Y.asg rfl rfl) rfl rfl rfl ?_
      | refine Jl.yd (Y.ext rfl rfl rfl) rfl rfl rfl ?_
      | refine Jl.yd (Y.pickT rfl rfl rfl) rfl rfl rfl ?_
      | refine Jl.yd (Y.pickF rfl rfl rfl) rfl rfl rfl ?_
      | refine Jl.off rfl rfl rfl ?_
      | refine Jl.yd (Y.cmpF rfl rfl rfl rfl (by omega)) rfl rfl rfl ?_
      | refine Jl.yd (Y.cmpT rfl rfl rfl rfl (by omega)) rfl rfl rfl ?_
      | refine Jl.yd (Y.neqB rfl rfl rfl Try.underlying4) rfl rfl rfl ?_
      | refine Jl.yd (Y.cmp rfl rfl rfl rfl) rfl rfl rfl ?_
      | refine Jl.yd (Y.not rfl rfl) rfl rfl rfl ?_
      | refine Jl.yd (Y.arithN rfl rfl rfl rfl (by omega)) rfl rfl rfl ?_
      | refine Jl.yd (Y.arith64 rfl rfl rfl rfl) rfl rfl rfl ?_
      | refine Jl.yd (Y.loadA rfl rfl agg26 (by repeat (first | exact .head _ | refine .tail _ ?_)) (by rfl)) rfl rfl rfl ?_
      | refine Jl.yd (Y.lenS Try.underlying65 rfl rfl rfl) rfl rfl rfl ?_
      | refine Jl.yd (Y.lenS Try.underlying24 rfl rfl rfl) rfl rfl rfl ?_
      | refine Jl.box (zs := [.int .i64 wd, .int .i64 ht, .slice A0 cs.length c0]) rfl rfl rfl rfl rfl (by rfl) (fun gc => ?_)
      | refine Jl.lit0 KI rfl rfl rfl rfl el24 (fun g0 => ?_)
      | refine Jl.splitG rfl rfl (fun h => ?_) (fun h => ?_))
    | (apply gateE; first
      | refine Jl.nil (Ej.go ?_ (fun _ _ h => h))
      | (refine Jl.nil (Ej.back (fun _ _ h => h) (by repeat (first | exact .refl | apply DropTo.tail)) ?_); repeat (first | exact trivial | refine ⟨rfl, ?_⟩)))
    | (apply gateC; first
      | refine Cj.block rfl ?_
      | refine Cj.condF rfl rfl (Cj.skip rfl (Ej.go ?_ (fun _ _ h => h)))
      | (refine Cj.condF rfl rfl (Cj.skip rfl (Ej.back (fun _ _ h => h) (by repeat (first | exact .refl | apply DropTo.tail)) ?_)); repeat (first | exact trivial | refine ⟨rfl, ?_⟩))
      | refine Cj.condF rfl rfl ?_
      | refine Cj.condT rfl rfl ?_
      | refine Cj.exit rfl (Ej.go ?_ (fun _ _ h => h))
      | refine Cj.cond rfl rfl (fun h => ?_) (fun h => ?_)
      | refine Cj.skip rfl (Ej.go ?_ (fun _ _ h => h))
      | (refine Cj.skip rfl (Ej.back (fun _ _ h => h) (by repeat (first | exact .refl | apply DropTo.tail)) ?_); repeat (first | exact trivial | refine ⟨rfl, ?_⟩))
      | refine Cj.seq rfl ?_
      | refine Cj.region rfl ?_))
  refine Cj.loopP (ι := Nat × Option Addr × Nat × List Int) (fun q => q.1 ≤ l.length ∧ q.2.2.2 = ordL wd cs l q.1 ∧ q.2.2.2.length ≤ q.2.2.1) (fun q => [(1, .slice A1 l.length c1), (2, .pointer (some ⟨gc, 0, none⟩)), (5, .slice q.2.1 (q.2.2.2 : List Int).length q.2.2.1), (6, .int .i64 (q.1 : Int))]) (fun q => [.row KI 3 0 (.slice q.2.1 (q.2.2.2 : List Int).length q.2.2.1) q.2.2.2, .box gc 26 [.int .i64 wd, .int .i64 ht, .slice A0 cs.length c0]]) (fun _ => [(fun W => Kd.C (Kd.int .i64) W A0 cs.length cs), (fun W => Kd.C k76 W A1 l.length l)]) (fun q => l.length - q.1) rfl (0, some ⟨g0, 0, none⟩, 0, []) ⟨Nat.zero_le _, rfl, Nat.zero_le _⟩ ⟨rfl, rfl, rfl, rfl, trivial⟩ (by repeat (first | exact .nil | refine Pick.cons (by repeat (first | exact .z | apply OutAt.s)) ?_)) (fun p hp => hp) (fun q hq => ?_)
  obtain ⟨i, A, c, s⟩ := q
  dsimp only at hq ⊢
  obtain ⟨hi, hs, hsc⟩ := hq
  have hsl : s.length = i := by rw [hs, ordL_len]
  by_cases hlt : i < l.length
  · obtain ⟨ad, rfl⟩ : ∃ ad, A1 = some ad := by
      obtain ⟨ad, e, _⟩ := hrH.2.2 (by omega)
      exact ⟨ad, e⟩
    obtain ⟨x, hx⟩ : ∃ x, nth l i z76 = x := ⟨_, rfl⟩
    have hxo : okH wd ht x = true := hx ▸ ho i hlt
    have hux : ([.int .i64 (l.getD ((i : Int)).toNat z76).f0, .int .i64 (l.getD ((i : Int)).toNat z76).f1, .int .i64 (l.getD ((i : Int)).toNat z76).f2, .int .i64 (l.getD ((i : Int)).toNat z76).f3] : List Value) = [.int .i64 x.f0, .int .i64 x.f1, .int .i64 x.f2, .int .i64 x.f3] := by
      have hx2 : l.getD i z76 = x := hx
      rw [Int.toNat_natCast, hx2]
    have hE : ordL wd cs l (i + 1) = insR (ltM wd cs l) s (i : Int) := by rw [ordL_succ, hs]
    refine Cj.ws (ι := Unit) (fun _ => s.length ≠ 0 → ∃ ad, A = some ad) (fun _ => [.box gc 26 [.int .i64 wd, .int .i64 ht, .slice A0 cs.length c0]]) (fun _ => [(fun W => KI.C W A s.length s), (fun W => Kd.C (Kd.int .i64) W A0 cs.length cs), (fun W => Kd.C k76 W (some ad) l.length l)]) (fun w' hW => ⟨(), (fun h0 => by
            obtain ⟨ad, e, _⟩ := (hW.rowC memH).2.2 (by omega)
            exact ⟨ad, e⟩), (hW.freeze (n := 0) rfl (p := (fun W => KI.C W A s.length s)) (fun W A' hA' => (Kd.R_reads' hA'.1).2.2))⟩) (fun _ hAn => ?_)
    repeat (first
        | (apply gateO; first
          | refine Jl.yd (Y.mv rfl rfl) rfl rfl rfl ?_
          | refine Jl.yd (Y.asg rfl rfl) rfl rfl rfl ?_
          | refine Jl.yd (Y.ext rfl rfl rfl) rfl rfl rfl ?_
          | refine Jl.yd (Y.pickT rfl rfl rfl) rfl rfl rfl ?_
          | refine Jl.yd (Y.pickF rfl rfl rfl) rfl rfl rfl ?_
          | refine Jl.off rfl rfl rfl ?_
          | refine Jl.yd (Y.cmpF rfl rfl rfl rfl (by omega)) rfl rfl rfl ?_
          | refine Jl.yd (Y.cmpT rfl rfl rfl rfl (by omega)) rfl rfl rfl ?_
          | refine Jl.yd (Y.neqB rfl rfl rfl Try.underlying4) rfl rfl rfl ?_
          | refine Jl.yd (Y.cmp rfl rfl rfl rfl) rfl rfl rfl ?_
          | refine Jl.yd (Y.not rfl rfl) rfl rfl rfl ?_
          | refine Jl.yd (Y.arithN rfl rfl rfl rfl (by omega)) rfl rfl rfl ?_
          | refine Jl.yd (Y.arith64 rfl rfl rfl rfl) rfl rfl rfl ?_
          | refine Jl.yd (Y.loadA rfl rfl agg26 (by repeat (first | exact .head _ | refine .tail _ ?_)) (by rfl)) rfl rfl rfl ?_
          | refine Jl.yd (Y.lenS Try.underlying65 rfl rfl rfl) rfl rfl rfl ?_
          | refine Jl.yd (Y.lenS Try.underlying24 rfl rfl rfl) rfl rfl rfl ?_
          | refine Jl.splitG rfl rfl (fun h => ?_) (fun h => ?_))
        | (apply gateE; first
          | refine Jl.nil (Ej.go ?_ (fun _ _ h => h))
          | (refine Jl.nil (Ej.back (fun _ _ h => h) (by repeat (first | exact .refl | apply DropTo.tail)) ?_); repeat (first | exact trivial | refine ⟨rfl, ?_⟩)))
        | (apply gateC; first
          | refine Cj.block rfl ?_
          | refine Cj.condF rfl rfl (Cj.skip rfl (Ej.go ?_ (fun _ _ h => h)))
          | (refine Cj.condF rfl rfl (Cj.skip rfl (Ej.back (fun _ _ h => h) (by repeat (first | exact .refl | apply DropTo.tail)) ?_)); repeat (first | exact trivial | refine ⟨rfl, ?_⟩))
          | refine Cj.condF rfl rfl ?_
          | refine Cj.condT rfl rfl ?_
          | refine Cj.exit rfl (Ej.go ?_ (fun _ _ h => h))
          | refine Cj.cond rfl rfl (fun h => ?_) (fun h => ?_)
          | refine Cj.skip rfl (Ej.go ?_ (fun _ _ h => h))
          | (refine Cj.skip rfl (Ej.back (fun _ _ h => h) (by repeat (first | exact .refl | apply DropTo.tail)) ?_); repeat (first | exact trivial | refine ⟨rfl, ?_⟩))
          | refine Cj.seq rfl ?_
          | refine Cj.region rfl ?_))
    refine Cj.loopP (ι := Nat) (fun q => q ≤ s.length ∧ goI (ltM wd cs l) (i : Int) (s.take q).reverse (s.drop q) = insR (ltM wd cs l) s (i : Int)) (fun q => [(1, .slice (some ad) l.length c1), (2, .pointer (some ⟨gc, 0, none⟩)), (5, .slice A (s : List Int).length c), (6, .int .i64 (i : Int)), (7, .int .i64 (q : Int))]) (fun _ => [.box gc 26 [.int .i64 wd, .int .i64 ht, .slice A0 cs.length c0]]) (fun _ => [(fun W => KI.C W A s.length s), (fun W => Kd.C (Kd.int .i64) W A0 cs.length cs), (fun W => Kd.C k76 W (some ad) l.length l)]) (fun q => q) rfl s.length ⟨Nat.le_refl _, by rw [List.take_length, List.drop_length]; rfl⟩ ⟨rfl, rfl, rfl, rfl, rfl, trivial⟩ (by repeat (first | exact .nil | refine Pick.cons (by repeat (first | exact .z | apply OutAt.s)) ?_)) (fun p hp => hp) (fun k hk2 => ?_)
    try dsimp only at hk2 ⊢
    obtain ⟨hks, hgo⟩ := hk2
    rcases Nat.eq_zero_or_pos k with hk0 | hk0
    · have fin : (([] ++ s.take k) ++ [(i : Int)]) ++ s.drop k = ordL wd cs l (i + 1) := by
        rw [hE, ← hgo, hk0]; simp [goI]
      refine Cj.ws (ι := Unit) (fun _ => True) (fun _ => [.box gc 26 [.int .i64 wd, .int .i64 ht, .slice A0 cs.length c0]]) (fun _ => [(fun W => KI.C W A (s.take k).length (s.take k)), (fun W => KI.C W (if c = ((k : Int)).toNat then A else Option.map (fun x => x.add (((k : Int)).toNat * 1)) A) (s.drop k).length (s.drop k)), (fun W => KI.C W A s.length s), (fun W => Kd.C (Kd.int .i64) W A0 cs.length cs), (fun W => Kd.C k76 W (some ad) l.length l)]) (fun w' hW => ⟨(), trivial, ((hW.both (p := (fun W => KI.C W A s.length s)) (q := (fun W => KI.C W A s.length s)) (r := (fun W => KI.C W (if c = ((k : Int)).toNat then A else Option.map (fun x => x.add (((k : Int)).toNat * 1)) A) (s.drop k).length (s.drop k))) memH memH (fun W h _ => by rw [Int.toNat_natCast]; exact Kd.C_drop h hks hsc)).both (p := (fun W => KI.C W A s.length s)) (q := (fun W => KI.C W A s.length s)) (r := (fun W => KI.C W A (s.take k).length (s.take k))) (memT memH) (memT memH) (fun W h _ => Kd.C_take h hks))⟩) (fun _ _ => ?_)
      repeat (first
          | (apply gateO; first
            | refine Jl.yd (Y.mv rfl rfl) rfl rfl rfl ?_
            | refine Jl.yd (Y.asg rfl rfl) rfl rfl rfl ?_
            | refine Jl.yd (Y.ext rfl rfl rfl) rfl rfl rfl ?_
            | refine Jl.yd (Y.pickT rfl rfl rfl) rfl rfl rfl ?_
            | refine Jl.yd (Y.pickF rfl rfl rfl) rfl rfl rfl ?_
            | refine Jl.off rfl rfl rfl ?_
            | refine Jl.yd (Y.cmpF rfl rfl rfl rfl (by omega)) rfl rfl rfl ?_
            | refine Jl.yd (Y.cmpT rfl rfl rfl rfl (by omega)) rfl rfl rfl ?_
            | refine Jl.yd (Y.neqB rfl rfl rfl Try.underlying4) rfl rfl rfl ?_
            | refine Jl.yd (Y.cmp rfl rfl rfl rfl) rfl rfl rfl ?_
            | refine Jl.yd (Y.not rfl rfl) rfl rfl rfl ?_
            | refine Jl.yd (Y.arithN rfl rfl rfl rfl (by omega)) rfl rfl rfl ?_
            | refine Jl.yd (Y.arith64 rfl rfl rfl rfl) rfl rfl rfl ?_
            | refine Jl.yd (Y.loadA rfl rfl agg26 (by repeat (first | exact .head _ | refine .tail _ ?_)) (by rfl)) rfl rfl rfl ?_
            | refine Jl.yd (Y.lenS Try.underlying65 rfl rfl rfl) rfl rfl rfl ?_
            | refine Jl.yd (Y.lenS Try.underlying24 rfl rfl rfl) rfl rfl rfl ?_
            | refine Jl.yd (Y.idx rfl rfl rfl el24 (by omega) (by omega)) rfl rfl rfl ?_
            | refine Jl.yd (Y.loadI (xs := s) (n := s.length) rfl rfl sc3 (by repeat (first | exact .head _ | refine .tail _ ?_)) ((k : Int) - 1) (by omega) (by omega) rfl) rfl rfl rfl ?_
            | refine Jl.yd (Y.idx rfl rfl rfl el65 (by omega) (by omega)) rfl rfl rfl ?_
            | refine Jl.yd (Y.loadK z76 [.int .i64 y.f0, .int .i64 y.f1, .int .i64 y.f2, .int .i64 y.f3] rfl rfl agg76 (by repeat (first | exact .head _ | refine .tail _ ?_)) ((s.getD ((k : Int) - 1).toNat 0)) (by omega) (by omega) (by rfl) (fun w cs h => (k76_open h).trans huy) (by rfl)) rfl rfl rfl ?_
            | refine Jl.yd (Y.loadK z76 [.int .i64 x.f0, .int .i64 x.f1, .int .i64 x.f2, .int .i64 x.f3] rfl rfl agg76 (by repeat (first | exact .head _ | refine .tail _ ?_)) ((i : Int)) (by omega) (by omega) (by rfl) (fun w cs h => (k76_open h).trans hux) (by rfl)) rfl rfl rfl ?_
            | refine Jl.call1 (v := .int .i64 (mm wd cs y)) rfl rfl rfl rfl en123 rfl (fun w hW => by with_reducible exact minS hg' hyo A0 c0 w (hW.fact (p := (fun W => Kd.C (Kd.int .i64) W A0 cs.length cs)) (by repeat (first | exact memH | refine memT ?_))) hc) ?_
            | refine Jl.call1 (v := .int .i64 (mm wd cs x)) rfl rfl rfl rfl en123 rfl (fun w hW => by with_reducible exact minS hg' hxo A0 c0 w (hW.fact (p := (fun W => Kd.C (Kd.int .i64) W A0 cs.length cs)) (by repeat (first | exact memH | refine memT ?_))) hc) ?_
            | refine Jl.splitG rfl rfl (fun h => ?_) (fun h => ?_))
          | (apply gateE; first
            | refine Jl.nil (Ej.go ?_ (fun _ _ h => h))
            | (refine Jl.nil (Ej.back (fun _ _ h => h) (by repeat (first | exact .refl | apply DropTo.tail)) ?_); repeat (first | exact trivial | refine ⟨rfl, ?_⟩)))
          | (apply gateC; first
            | refine Cj.block rfl ?_
            | refine Cj.regionD rfl (mkD [0, 1, 2, 3, 4, 5, 6, 7, 8, 9, 10, 11, 12, 13, 14, 15, 16, 19, 20] []) [] [0, 1, 2, 3, 4, 5, 6, 7, 8, 9, 10, 11, 13, 14, 15, 16, 17, 12, 18, 19, 20] mixed (by decide +kernel) ?_
            | refine Cj.condF rfl rfl (Cj.skip rfl (Ej.go ?_ (fun _ _ h => h)))
            | (refine Cj.condF rfl rfl (Cj.skip rfl (Ej.back (fun _ _ h => h) (by repeat (first | exact .refl | apply DropTo.tail)) ?_)); repeat (first | exact trivial | refine ⟨rfl, ?_⟩))
            | refine Cj.condF rfl rfl ?_
            | refine Cj.condT rfl rfl ?_
            | refine Cj.exit rfl (Ej.go ?_ (fun _ _ h => h))
            | refine Cj.cond rfl rfl (fun h => ?_) (fun h => ?_)
            | refine Cj.skip rfl (Ej.go ?_ (fun _ _ h => h))
            | (refine Cj.skip rfl (Ej.back (fun _ _ h => h) (by repeat (first | exact .refl | apply DropTo.tail)) ?_); repeat (first | exact trivial | refine ⟨rfl, ?_⟩))
            | refine Cj.seq rfl ?_
            | refine Cj.region rfl ?_))
      refine Cj.regionJ rfl [0, 4, 6, 7, 11] mixed ?_
      refine Jw.take 1 rfl (by decide +kernel) (by intro c a d v w h; cases d <;> exact h) (fun w => Y.mv rfl rfl) rfl rfl rfl ?_
      refine Jw.take 2 rfl (by decide +kernel) (by intro c a d v w h; cases d <;> exact h) (fun w => Y.mv rfl rfl) rfl rfl rfl ?_
      refine Jw.take 5 rfl (by decide +kernel) (by intro c a d v w h; cases d <;> exact h) (fun w => Y.mv rfl rfl) rfl rfl rfl ?_
      refine Jw.take 8 rfl (by decide +kernel) (by intro c a d v w h; cases d <;> exact h) (fun w => Y.mv rfl rfl) rfl rfl rfl ?_
      refine Jw.take 9 rfl (by decide +kernel) (by intro c a d v w h; cases d <;> exact h) (fun w => Y.mv rfl rfl) rfl rfl rfl ?_
      refine Jw.take 3 rfl (by decide +kernel) (by intro c a d v w h; cases d <;> exact h) (fun w => Y.sliTo rfl rfl rfl el24 (by omega) (by omega)) rfl rfl rfl ?_
      refine Jw.take 10 rfl (by decide +kernel) (by intro c a d v w h; cases d <;> exact h) (fun w => Y.sliFrom rfl rfl rfl el24 (by omega) (by omega)) rfl rfl rfl ?_
      refine Jw.br2 (mkD [] [0]) 0 6 rfl rfl (by decide +kernel) rfl rfl ?_ ?_
      · skip
        refine Jl.lit0 KI rfl rfl rfl rfl el24 (fun g0 => ?_)
        refine Jl.jw ?_
        refine Jw.br2 (mkD [] [0]) 4 6 rfl rfl (by decide +kernel) rfl rfl ?_ ?_
        · skip
          refine Jl.appI (xs := []) (zs := s.take k) rfl rfl rfl rfl rfl rfl ap24 (by rw [List.length_take]; omega) (by repeat (first | exact memH | refine memT ?_)) (by repeat (first | exact .z | apply OutAt.s)) (by try simp only [List.length_append, List.length_cons, List.length_nil, List.length_take, List.length_drop]; omega) (fun A4 c4 h4 => ?_)
          refine Jl.jw ?_
          refine Jw.step (mkD [] [0]) 6 rfl (by decide +kernel) rfl rfl ?_
          refine Jl.lit1 rfl rfl rfl rfl rfl el24 zero3 rfl (fun g6 => ?_)
          refine Jl.jw ?_
          refine Jw.step (mkD [] [0]) 7 rfl (by decide +kernel) rfl rfl ?_
          refine Jl.app (dk := KI) (xs := [] ++ s.take k) (i : Int) (fun _ => False) rfl rfl rfl rfl rfl rfl ap24 (by repeat (first | exact .head _ | refine .tail _ ?_)) rfl (fun w => rfl) (fun u hu => by rw [List.mem_singleton.1 hu]; rfl) (by repeat (first | exact .z | apply OutAt.s)) (by try simp only [List.length_append, List.length_cons, List.length_nil, List.length_take, List.length_drop]; omega) (by try simp only [List.length_append, List.length_cons, List.length_nil, List.length_take, List.length_drop]; omega) (fun A7 c7 h7 => ?_)
          refine Jl.jw ?_
          refine Jw.step (mkD [] [0]) 11 rfl (by decide +kernel) rfl rfl ?_
          refine Jl.appI (xs := ([] ++ s.take k) ++ [(i : Int)]) (zs := s.drop k) rfl rfl rfl rfl rfl rfl ap24 (by rw [List.length_drop]; omega) (by repeat (first | exact memH | refine memT ?_)) (by repeat (first | exact .z | apply OutAt.s)) (by try simp only [List.length_append, List.length_cons, List.length_nil, List.length_take, List.length_drop]; omega) (fun A11 c11 h11 => ?_)
          refine Jl.jw ?_
          refine Jw.take 12 rfl (by decide +kernel) (by intro c a d v w h; cases d <;> exact h) (fun w => Y.asg rfl rfl) rfl rfl rfl ?_
          refine Jw.done (by decide +kernel) (Ej.go ?_ (fun _ _ h => h))
          repeat (first
              | (apply gateO; first
                | refine Jl.yd (Y.mv rfl rfl) rfl rfl rfl ?_
                | refine Jl.yd (Y.asg rfl rfl) rfl rfl rfl ?_
                | refine Jl.yd (Y.ext rfl rfl rfl) rfl rfl rfl ?_
                | refine Jl.yd (Y.pickT rfl rfl rfl) rfl rfl rfl ?_
                | refine Jl.yd (Y.pickF rfl rfl rfl) rfl rfl rfl ?_
                | refine Jl.off rfl rfl rfl ?_
                | refine Jl.yd (Y.cmpF rfl rfl rfl rfl (by omega)) rfl rfl rfl ?_
                | refine Jl.yd (Y.cmpT rfl rfl rfl rfl (by omega)) rfl rfl rfl ?_
                | refine Jl.yd (Y.neqB rfl rfl rfl Try.underlying4) rfl rfl rfl ?_
                | refine Jl.yd (Y.cmp rfl rfl rfl rfl) rfl rfl rfl ?_
                | refine Jl.yd (Y.not rfl rfl) rfl rfl rfl ?_
                | refine Jl.yd (Y.arithN rfl rfl rfl rfl (by omega)) rfl rfl rfl ?_
                | refine Jl.yd (Y.arith64 rfl rfl rfl rfl) rfl rfl rfl ?_
                | refine Jl.yd (Y.loadA rfl rfl agg26 (by repeat (first | exact .head _ | refine .tail _ ?_)) (by rfl)) rfl rfl rfl ?_
                | refine Jl.yd (Y.lenS Try.underlying65 rfl rfl rfl) rfl rfl rfl ?_
                | refine Jl.yd (Y.lenS Try.underlying24 rfl rfl rfl) rfl rfl rfl ?_
                | refine Jl.splitG rfl rfl (fun h => ?_) (fun h => ?_))
              | (apply gateE; first
                | refine Jl.nil (Ej.go ?_ (fun _ _ h => h))
                | (refine Jl.nil (Ej.back (fun _ _ h => h) (by repeat (first | exact .refl | apply DropTo.tail)) ?_); repeat (first | exact trivial | refine ⟨rfl, ?_⟩)))
              | (apply gateC; first
                | refine Cj.block rfl ?_
                | refine Cj.condF rfl rfl (Cj.skip rfl (Ej.go ?_ (fun _ _ h => h)))
                | (refine Cj.condF rfl rfl (Cj.skip rfl (Ej.back (fun _ _ h => h) (by repeat (first | exact .refl | apply DropTo.tail)) ?_)); repeat (first | exact trivial | refine ⟨rfl, ?_⟩))
                | refine Cj.condF rfl rfl ?_
                | refine Cj.condT rfl rfl ?_
                | refine Cj.exit rfl (Ej.go ?_ (fun _ _ h => h))
                | refine Cj.cond rfl rfl (fun h => ?_) (fun h => ?_)
                | refine Cj.skip rfl (Ej.go ?_ (fun _ _ h => h))
                | (refine Cj.skip rfl (Ej.back (fun _ _ h => h) (by repeat (first | exact .refl | apply DropTo.tail)) ?_); repeat (first | exact trivial | refine ⟨rfl, ?_⟩))
                | refine Cj.seq rfl ?_
                | refine Cj.region rfl ?_))
          refine Jl.nil (Ej.cutP (ι := Nat × Option Addr × Nat × List Int) _ _ _ _ (fun _ _ h => h) (i + 1, A11, c11, (([] ++ s.take k) ++ [(i : Int)]) ++ s.drop k) ⟨⟨by omega, fin, h11⟩, by dsimp only; omega⟩ ⟨rfl, rfl, rfl, rfl, trivial⟩ (by repeat (first | exact .nil | refine Pick.cons (by repeat (first | exact .z | apply OutAt.s)) ?_)) (fun p hp => List.mem_cons_of_mem _ (List.mem_cons_of_mem _ (List.mem_cons_of_mem _ hp))))
        · skip
          refine Jl.lit1 rfl rfl rfl rfl rfl el24 zero3 rfl (fun g6 => ?_)
          refine Jl.jw ?_
          refine Jw.step (mkD [] [0]) 4 rfl (by decide +kernel) rfl rfl ?_
          refine Jl.appI (xs := []) (zs := s.take k) rfl rfl rfl rfl rfl rfl ap24 (by rw [List.length_take]; omega) (by repeat (first | exact memH | refine memT ?_)) (by repeat (first | exact .z | apply OutAt.s)) (by try simp only [List.length_append, List.length_cons, List.length_nil, List.length_take, List.length_drop]; omega) (fun A4 c4 h4 => ?_)
          refine Jl.jw ?_
          refine Jw.step (mkD [] [0]) 7 rfl (by decide +kernel) rfl rfl ?_
          refine Jl.app (dk := KI) (xs := [] ++ s.take k) (i : Int) (fun _ => False) rfl rfl rfl rfl rfl rfl ap24 (by repeat (first | exact .head _ | refine .tail _ ?_)) rfl (fun w => rfl) (fun u hu => by rw [List.mem_singleton.1 hu]; rfl) (by repeat (first | exact .z | apply OutAt.s)) (by try simp only [List.length_append, List.length_cons, List.length_nil, List.length_take, List.length_drop]; omega) (by try simp only [List.length_append, List.length_cons, List.length_nil, List.length_take, List.length_drop]; omega) (fun A7 c7 h7 => ?_)
          refine Jl.jw ?_
          refine Jw.step (mkD [] [0]) 11 rfl (by decide +kernel) rfl rfl ?_
          refine Jl.appI (xs := ([] ++ s.take k) ++ [(i : Int)]) (zs := s.drop k) rfl rfl rfl rfl rfl rfl ap24 (by rw [List.length_drop]; omega) (by repeat (first | exact memH | refine memT ?_)) (by repeat (first | exact .z | apply OutAt.s)) (by try simp only [List.length_append, List.length_cons, List.length_nil, List.length_take, List.length_drop]; omega) (fun A11 c11 h11 => ?_)
          refine Jl.jw ?_
          refine Jw.take 12 rfl (by decide +kernel) (by intro c a d v w h; cases d <;> exact h) (fun w => Y.asg rfl rfl) rfl rfl rfl ?_
          refine Jw.done (by decide +kernel) (Ej.go ?_ (fun _ _ h => h))
          repeat (first
              | (apply gateO; first
                | refine Jl.yd (Y.mv rfl rfl) rfl rfl rfl ?_
                | refine Jl.yd (Y.asg rfl rfl) rfl rfl rfl ?_
                | refine Jl.yd (Y.ext rfl rfl rfl) rfl rfl rfl ?_
                | refine Jl.yd (Y.pickT rfl rfl rfl) rfl rfl rfl ?_
                | refine Jl.yd (Y.pickF rfl rfl rfl) rfl rfl rfl ?_
                | refine Jl.off rfl rfl rfl ?_
                | refine Jl.yd (Y.cmpF rfl rfl rfl rfl (by omega)) rfl rfl rfl ?_
                | refine Jl.yd (Y.cmpT rfl rfl rfl rfl (by omega)) rfl rfl rfl ?_
                | refine Jl.yd (Y.neqB rfl rfl rfl Try.underlying4) rfl rfl rfl ?_
                | refine Jl.yd (Y.cmp rfl rfl rfl rfl) rfl rfl rfl ?_
                | refine Jl.yd (Y.not rfl rfl) rfl rfl rfl ?_
                | refine Jl.yd (Y.arithN rfl rfl rfl rfl (by omega)) rfl rfl rfl ?_
                | refine Jl.yd (Y.arith64 rfl rfl rfl rfl) rfl rfl rfl ?_
                | refine Jl.yd (Y.loadA rfl rfl agg26 (by repeat (first | exact .head _ | refine .tail _ ?_)) (by rfl)) rfl rfl rfl ?_
                | refine Jl.yd (Y.lenS Try.underlying65 rfl rfl rfl) rfl rfl rfl ?_
                | refine Jl.yd (Y.lenS Try.underlying24 rfl rfl rfl) rfl rfl rfl ?_
                | refine Jl.splitG rfl rfl (fun h => ?_) (fun h => ?_))
              | (apply gateE; first
                | refine Jl.nil (Ej.go ?_ (fun _ _ h => h))
                | (refine Jl.nil (Ej.back (fun _ _ h => h) (by repeat (first | exact .refl | apply DropTo.tail)) ?_); repeat (first | exact trivial | refine ⟨rfl, ?_⟩)))
              | (apply gateC; first
                | refine Cj.block rfl ?_
                | refine Cj.condF rfl rfl (Cj.skip rfl (Ej.go ?_ (fun _ _ h => h)))
                | (refine Cj.condF rfl rfl (Cj.skip rfl (Ej.back (fun _ _ h => h) (by repeat (first | exact .refl | apply DropTo.tail)) ?_)); repeat (first | exact trivial | refine ⟨rfl, ?_⟩))
                | refine Cj.condF rfl rfl ?_
                | refine Cj.condT rfl rfl ?_
                | refine Cj.exit rfl (Ej.go ?_ (fun _ _ h => h))
                | refine Cj.cond rfl rfl (fun h => ?_) (fun h => ?_)
                | refine Cj.skip rfl (Ej.go ?_ (fun _ _ h => h))
                | (refine Cj.skip rfl (Ej.back (fun _ _ h => h) (by repeat (first | exact .refl | apply DropTo.tail)) ?_); repeat (first | exact trivial | refine ⟨rfl, ?_⟩))
                | refine Cj.seq rfl ?_
                | refine Cj.region rfl ?_))
          refine Jl.nil (Ej.cutP (ι := Nat × Option Addr × Nat × List Int) _ _ _ _ (fun _ _ h => h) (i + 1, A11, c11, (([] ++ s.take k) ++ [(i : Int)]) ++ s.drop k) ⟨⟨by omega, fin, h11⟩, by dsimp only; omega⟩ ⟨rfl, rfl, rfl, rfl, trivial⟩ (by repeat (first | exact .nil | refine Pick.cons (by repeat (first | exact .z | apply OutAt.s)) ?_)) (fun p hp => List.mem_cons_of_mem _ (List.mem_cons_of_mem _ (List.mem_cons_of_mem _ hp))))
      · skip
        refine Jl.lit1 rfl rfl rfl rfl rfl el24 zero3 rfl (fun g6 => ?_)
        refine Jl.jw ?_
        refine Jw.step (mkD [] [0]) 0 rfl (by decide +kernel) rfl rfl ?_
        refine Jl.lit0 KI rfl rfl rfl rfl el24 (fun g0 => ?_)
        refine Jl.jw ?_
        refine Jw.step (mkD [] [0]) 4 rfl (by decide +kernel) rfl rfl ?_
        refine Jl.appI (xs := []) (zs := s.take k) rfl rfl rfl rfl rfl rfl ap24 (by rw [List.length_take]; omega) (by repeat (first | exact memH | refine memT ?_)) (by repeat (first | exact .z | apply OutAt.s)) (by try simp only [List.length_append, List.length_cons, List.length_nil, List.length_take, List.length_drop]; omega) (fun A4 c4 h4 => ?_)
        refine Jl.jw ?_
        refine Jw.step (mkD [] [0]) 7 rfl (by decide +kernel) rfl rfl ?_
        refine Jl.app (dk := KI) (xs := [] ++ s.take k) (i : Int) (fun _ => False) rfl rfl rfl rfl rfl rfl ap24 (by repeat (first | exact .head _ | refine .tail _ ?_)) rfl (fun w => rfl) (fun u hu => by rw [List.mem_singleton.1 hu]; rfl) (by repeat (first | exact .z | apply OutAt.s)) (by try simp only [List.length_append, List.length_cons, List.length_nil, List.length_take, List.length_drop]; omega) (by try simp only [List.length_append, List.length_cons, List.length_nil, List.length_take, List.length_drop]; omega) (fun A7 c7 h7 => ?_)
        refine Jl.jw ?_
        refine Jw.step (mkD [] [0]) 11 rfl (by decide +kernel) rfl rfl ?_
        refine Jl.appI (xs := ([] ++ s.take k) ++ [(i : Int)]) (zs := s.drop k) rfl rfl rfl rfl rfl rfl ap24 (by rw [List.length_drop]; omega) (by repeat (first | exact memH | refine memT ?_)) (by repeat (first | exact .z | apply OutAt.s)) (by try simp only [List.length_append, List.length_cons, List.length_nil, List.length_take, List.length_drop]; omega) (fun A11 c11 h11 => ?_)
        refine Jl.jw ?_
        refine Jw.take 12 rfl (by decide +kernel) (by intro c a d v w h; cases d <;> exact h) (fun w => Y.asg rfl rfl) rfl rfl rfl ?_
        refine Jw.done (by decide +kernel) (Ej.go ?_ (fun _ _ h => h))
        repeat (first
            | (apply gateO; first
              | refine Jl.yd (Y.mv rfl rfl) rfl rfl rfl ?_
              | refine Jl.yd (Y.asg rfl rfl) rfl rfl rfl ?_
              | refine Jl.yd (Y.ext rfl rfl rfl) rfl rfl rfl ?_
              | refine Jl.yd (Y.pickT rfl rfl rfl) rfl rfl rfl ?_
              | refine Jl.yd (Y.pickF rfl rfl rfl) rfl rfl rfl ?_
              | refine Jl.off rfl rfl rfl ?_
              | refine Jl.yd (Y.cmpF rfl rfl rfl rfl (by omega)) rfl rfl rfl ?_
              | refine Jl.yd (Y.cmpT rfl rfl rfl rfl (by omega)) rfl rfl rfl ?_
              | refine Jl.yd (Y.neqB rfl rfl rfl Try.underlying4) rfl rfl rfl ?_
              | refine Jl.yd (Y.cmp rfl rfl rfl rfl) rfl rfl rfl ?_
              | refine Jl.yd (Y.not rfl rfl) rfl rfl rfl ?_
              | refine Jl.yd (Y.arithN rfl rfl rfl rfl (by omega)) rfl rfl rfl ?_
              | refine Jl.yd (Y.arith64 rfl rfl rfl rfl) rfl rfl rfl ?_
              | refine Jl.yd (Y.loadA rfl rfl agg26 (by repeat (first | exact .head _ | refine .tail _ ?_)) (by rfl)) rfl rfl rfl ?_
              | refine Jl.yd (Y.lenS Try.underlying65 rfl rfl rfl) rfl rfl rfl ?_
              | refine Jl.yd (Y.lenS Try.underlying24 rfl rfl rfl) rfl rfl rfl ?_
              | refine Jl.splitG rfl rfl (fun h => ?_) (fun h => ?_))
            | (apply gateE; first
              | refine Jl.nil (Ej.go ?_ (fun _ _ h => h))
              | (refine Jl.nil (Ej.back (fun _ _ h => h) (by repeat (first | exact .refl | apply DropTo.tail)) ?_); repeat (first | exact trivial | refine ⟨rfl, ?_⟩)))
            | (apply gateC; first
              | refine Cj.block rfl ?_
              | refine Cj.condF rfl rfl (Cj.skip rfl (Ej.go ?_ (fun _ _ h => h)))
              | (refine Cj.condF rfl rfl (Cj.skip rfl (Ej.back (fun _ _ h => h) (by repeat (first | exact .refl | apply DropTo.tail)) ?_)); repeat (first | exact trivial | refine ⟨rfl, ?_⟩))
              | refine Cj.condF rfl rfl ?_
              | refine Cj.condT rfl rfl ?_
              | refine Cj.exit rfl (Ej.go ?_ (fun _ _ h => h))
              | refine Cj.cond rfl rfl (fun h => ?_) (fun h => ?_)
              | refine Cj.skip rfl (Ej.go ?_ (fun _ _ h => h))
              | (refine Cj.skip rfl (Ej.back (fun _ _ h => h) (by repeat (first | exact .refl | apply DropTo.tail)) ?_); repeat (first | exact trivial | refine ⟨rfl, ?_⟩))
              | refine Cj.seq rfl ?_
              | refine Cj.region rfl ?_))
        refine Jl.nil (Ej.cutP (ι := Nat × Option Addr × Nat × List Int) _ _ _ _ (fun _ _ h => h) (i + 1, A11, c11, (([] ++ s.take k) ++ [(i : Int)]) ++ s.drop k) ⟨⟨by omega, fin, h11⟩, by dsimp only; omega⟩ ⟨rfl, rfl, rfl, rfl, trivial⟩ (by repeat (first | exact .nil | refine Pick.cons (by repeat (first | exact .z | apply OutAt.s)) ?_)) (fun p hp => List.mem_cons_of_mem _ (List.mem_cons_of_mem _ (List.mem_cons_of_mem _ hp))))
    · obtain ⟨yi, hyi⟩ : ∃ y, s[k - 1]? = some y := ⟨_, List.getElem?_eq_getElem (by omega)⟩
      obtain ⟨j, hj, rfl⟩ := ordL_mem (hs ▸ List.mem_of_getElem? hyi)
      have hgd : s.getD ((k : Int) - 1).toNat 0 = (j : Int) := by
        rw [show ((k : Int) - 1).toNat = k - 1 by omega, List.getD_eq_getElem?_getD, hyi]; rfl
      obtain ⟨y, hy⟩ : ∃ y, nth l j z76 = y := ⟨_, rfl⟩
      have hyo : okH wd ht y = true := hy ▸ ho j (by omega)
      have huy : ([.int .i64 (l.getD (s.getD ((k : Int) - 1).toNat 0).toNat z76).f0, .int .i64 (l.getD (s.getD ((k : Int) - 1).toNat 0).toNat z76).f1, .int .i64 (l.getD (s.getD ((k : Int) - 1).toNat 0).toNat z76).f2, .int .i64 (l.getD (s.getD ((k : Int) - 1).toNat 0).toNat z76).f3] : List Value) = [.int .i64 y.f0, .int .i64 y.f1, .int .i64 y.f2, .int .i64 y.f3] := by
        have hx2 : l.getD j z76 = y := hy
        rw [hgd, Int.toNat_natCast, hx2]
      obtain ⟨ad1, rfl⟩ : ∃ ad, A = some ad := hAn (by omega)
      have hlt2 : ltM wd cs l (i : Int) (j : Int) = decide (mm wd cs x < mm wd cs y) := by
        unfold ltM
        rw [Int.toNat_natCast, Int.toNat_natCast, hx, hy]
      have htk2 : (s.take k).reverse = (j : Int) :: (s.take (k - 1)).reverse := by
        obtain ⟨m, rfl⟩ : ∃ m, k = m + 1 := ⟨k - 1, by omega⟩
        rw [List.take_add_one, show s[m]? = some (j : Int) from hyi]; simp
      have hdr2 : (j : Int) :: s.drop k = s.drop (k - 1) := by
        obtain ⟨m, rfl⟩ : ∃ m, k = m + 1 := ⟨k - 1, by omega⟩
        rw [show m + 1 - 1 = m from rfl, List.drop_eq_getElem_cons (i := m) (by omega)]
        congr 1
        exact (List.getElem?_eq_some_iff.1 hyi).2.symm
      by_cases hcm : mm wd cs x < mm wd cs y
      · have hgo2 : goI (ltM wd cs l) (i : Int) (s.take (k - 1)).reverse (s.drop (k - 1)) = insR (ltM wd cs l) s (i : Int) := by
          rw [← hgo, htk2, ← hdr2]
          conv => rhs; unfold goI
          rw [if_pos (by rw [hlt2]; simpa using hcm)]
        repeat (first
    | (apply gateO; first
      | refine Jl.yd (Y.mv rfl rfl) rfl rfl rfl ?_
      | refine Jl.yd (Y.asg rfl rfl) rfl rfl rfl ?_
      | refine Jl.yd (Y.ext rfl rfl rfl) rfl rfl rfl ?_
      | refine Jl.yd (Y.pickT rfl rfl rfl) rfl rfl rfl ?_
      | refine Jl.yd (Y.pickF rfl rfl rfl) rfl rfl rfl ?_
      | refine Jl.off rfl rfl rfl ?_
      | refine Jl.yd (Y.cmpF rfl rfl rfl rfl (by omega)) rfl rfl rfl ?_
      | refine Jl.yd (Y.cmpT rfl rfl rfl rfl (by omega)) rfl rfl rfl ?_
      | refine Jl.yd (Y.neqB rfl rfl rfl Try.underlying4) rfl rfl rfl ?_
      | refine Jl.yd (Y.cmp rfl rfl rfl rfl) rfl rfl rfl ?_
      | refine Jl.yd (Y.not rfl rfl) rfl rfl rfl ?_
      | refine Jl.yd (Y.arithN rfl rfl rfl rfl (by omega)) rfl rfl rfl ?_
      | refine Jl.yd (Y.arith64 rfl rfl rfl rfl) rfl rfl rfl ?_
      | refine Jl.yd (Y.loadA rfl rfl agg26 (by repeat (first | exact .head _ | refine .tail _ ?_)) (by rfl)) rfl rfl rfl ?_
      | refine Jl.yd (Y.lenS Try.underlying65 rfl rfl rfl) rfl rfl rfl ?_
      | refine Jl.yd (Y.lenS Try.underlying24 rfl rfl rfl) rfl rfl rfl ?_
      | refine Jl.yd (Y.idx rfl rfl rfl el24 (by omega) (by omega)) rfl rfl rfl ?_
      | refine Jl.yd (Y.loadI (xs := s) (n := s.length) rfl rfl sc3 (by repeat (first | exact .head _ | refine .tail _ ?_)) ((k : Int) - 1) (by omega) (by omega) rfl) rfl rfl rfl ?_
      | refine Jl.yd (Y.idx rfl rfl rfl el65 (by omega) (by omega)) rfl rfl rfl ?_
      | refine Jl.yd (Y.loadK z76 [.int .i64 y.f0, .int .i64 y.f1, .int .i64 y.f2, .int .i64 y.f3] rfl rfl agg76 (by repeat (first | exact .head _ | refine .tail _ ?_)) ((s.getD ((k : Int) - 1).toNat 0)) (by omega) (by omega) (by rfl) (fun w cs h => (k76_open h).trans huy) (by rfl)) rfl rfl rfl ?_
      | refine Jl.yd (Y.loadK z76 [.int .i64 x.f0, .int .i64 x.f1, .int .i64 x.f2, .int .i64 x.f3] rfl rfl agg76 (by repeat (first | exact .head _ | refine .tail _ ?_)) ((i : Int)) (by omega) (by omega) (by rfl) (fun w cs h => (k76_open h).trans hux) (by rfl)) rfl rfl rfl ?_
      | refine Jl.call1 (v := .int .i64 (mm wd cs y)) rfl rfl rfl rfl en123 rfl (fun w hW => by with_reducible exact minS hg' hyo A0 c0 w (hW.fact (p := (fun W => Kd.C (Kd.int .i64) W A0 cs.length cs)) (by repeat (first | exact memH | refine memT ?_))) hc) ?_
      | refine Jl.call1 (v := .int .i64 (mm wd cs x)) rfl rfl rfl rfl en123 rfl (fun w hW => by with_reducible exact minS hg' hxo A0 c0 w (hW.fact (p := (fun W => Kd.C (Kd.int .i64) W A0 cs.length cs)) (by repeat (first | exact memH | refine memT ?_))) hc) ?_
      | refine Jl.splitG rfl rfl (fun h => ?_) (fun h => ?_))
    | (apply gateE; first
      | refine Jl.nil (Ej.go ?_ (fun _ _ h => h))
      | (refine Jl.nil (Ej.back (fun _ _ h => h) (by repeat (first | exact .refl | apply DropTo.tail)) ?_); repeat (first | exact trivial | refine ⟨rfl, ?_⟩)))
    | (apply gateC; first
      | refine Cj.block rfl ?_
      | refine Cj.regionD rfl (mkD [0, 1, 2, 3, 4, 5, 6, 7, 8, 9, 10, 11, 12, 13, 14, 15, 16, 19, 20] []) [] [0, 1, 2, 3, 4, 5, 6, 7, 8, 9, 10, 11, 13, 14, 15, 16, 17, 12, 18, 19, 20] mixed (by decide +kernel) ?_
      | refine Cj.condF rfl rfl (Cj.skip rfl (Ej.go ?_ (fun _ _ h => h)))
      | (refine Cj.condF rfl rfl (Cj.skip rfl (Ej.back (fun _ _ h => h) (by repeat (first | exact .refl | apply DropTo.tail)) ?_)); repeat (first | exact trivial | refine ⟨rfl, ?_⟩))
      | refine Cj.condF rfl rfl ?_
      | refine Cj.condT rfl rfl ?_
      | refine Cj.exit rfl (Ej.go ?_ (fun _ _ h => h))
      | refine Cj.cond rfl rfl (fun h => ?_) (fun h => ?_)
      | refine Cj.skip rfl (Ej.go ?_ (fun _ _ h => h))
      | (refine Cj.skip rfl (Ej.back (fun _ _ h => h) (by repeat (first | exact .refl | apply DropTo.tail)) ?_); repeat (first | exact trivial | refine ⟨rfl, ?_⟩))
      | refine Cj.seq rfl ?_
      | refine Cj.region rfl ?_))
        refine Jl.nil (Ej.cutP (ι := Nat) _ _ _ _ (fun _ _ h => h) (k - 1) ⟨⟨by omega, hgo2⟩, by (try dsimp only); omega⟩ ⟨rfl, rfl, rfl, rfl, ?_, trivial⟩ (by repeat (first | exact .nil | refine Pick.cons (by repeat (first | exact .z | apply OutAt.s)) ?_)) (fun p hp => hp))
        show some (Value.int .i64 ((k : Int) - 1)) = some (.int .i64 ((k - 1 : Nat) : Int))
        rw [show ((k - 1 : Nat) : Int) = (k : Int) - 1 by omega]
      · have fin : (([] ++ s.take k) ++ [(i : Int)]) ++ s.drop k = ordL wd cs l (i + 1) := by
          rw [hE, ← hgo, htk2]
          unfold goI
          rw [if_neg (by rw [hlt2]; simpa using hcm)]
          have := congrArg List.reverse htk2
          rw [List.reverse_reverse, List.reverse_cons, List.reverse_reverse] at this
          rw [this]; simp
        refine Cj.ws (ι := Unit) (fun _ => True) (fun _ => [.box gc 26 [.int .i64 wd, .int .i64 ht, .slice A0 cs.length c0]]) (fun _ => [(fun W => KI.C W (some ad1) (s.take k).length (s.take k)), (fun W => KI.C W (if c = ((k : Int)).toNat then (some ad1) else Option.map (fun x => x.add (((k : Int)).toNat * 1)) (some ad1)) (s.drop k).length (s.drop k)), (fun W => KI.C W (some ad1) s.length s), (fun W => Kd.C (Kd.int .i64) W A0 cs.length cs), (fun W => Kd.C k76 W (some ad) l.length l)]) (fun w' hW => ⟨(), trivial, ((hW.both (p := (fun W => KI.C W (some ad1) s.length s)) (q := (fun W => KI.C W (some ad1) s.length s)) (r := (fun W => KI.C W (if c = ((k : Int)).toNat then (some ad1) else Option.map (fun x => x.add (((k : Int)).toNat * 1)) (some ad1)) (s.drop k).length (s.drop k))) memH memH (fun W h _ => by rw [Int.toNat_natCast]; exact Kd.C_drop h hks hsc)).both (p := (fun W => KI.C W (some ad1) s.length s)) (q := (fun W => KI.C W (some ad1) s.length s)) (r := (fun W => KI.C W (some ad1) (s.take k).length (s.take k))) (memT memH) (memT memH) (fun W h _ => Kd.C_take h hks))⟩) (fun _ _ => ?_)
        repeat (first
            | (apply gateO; first
              | refine Jl.yd (Y.mv rfl rfl) rfl rfl rfl ?_
              | refine Jl.yd (Y.asg rfl rfl) rfl rfl rfl ?_
              | refine Jl.yd (Y.ext rfl rfl rfl) rfl rfl rfl ?_
              | refine Jl.yd (Y.pickT rfl rfl rfl) rfl rfl rfl ?_
              | refine Jl.yd (Y.pickF rfl rfl rfl) rfl rfl rfl ?_
              | refine Jl.off rfl rfl rfl ?_
              | refine Jl.yd (Y.cmpF rfl rfl rfl rfl (by omega)) rfl rfl rfl ?_
              | refine Jl.yd (Y.cmpT rfl rfl rfl rfl (by omega)) rfl rfl rfl ?_
              | refine Jl.yd (Y.neqB rfl rfl rfl Try.underlying4) rfl rfl rfl ?_
              | refine Jl.yd (Y.cmp rfl rfl rfl rfl) rfl rfl rfl ?_
              | refine Jl.yd (Y.not rfl rfl) rfl rfl rfl ?_
              | refine Jl.yd (Y.arithN rfl rfl rfl rfl (by omega)) rfl rfl rfl ?_
              | refine Jl.yd (Y.arith64 rfl rfl rfl rfl) rfl rfl rfl ?_
              | refine Jl.yd (Y.loadA rfl rfl agg26 (by repeat (first | exact .head _ | refine .tail _ ?_)) (by rfl)) rfl rfl rfl ?_
              | refine Jl.yd (Y.lenS Try.underlying65 rfl rfl rfl) rfl rfl rfl ?_
              | refine Jl.yd (Y.lenS Try.underlying24 rfl rfl rfl) rfl rfl rfl ?_
              | refine Jl.yd (Y.idx rfl rfl rfl el24 (by omega) (by omega)) rfl rfl rfl ?_
              | refine Jl.yd (Y.loadI (xs := s) (n := s.length) rfl rfl sc3 (by repeat (first | exact .head _ | refine .tail _ ?_)) ((k : Int) - 1) (by omega) (by omega) rfl) rfl rfl rfl ?_
              | refine Jl.yd (Y.idx rfl rfl rfl el65 (by omega) (by omega)) rfl rfl rfl ?_
              | refine Jl.yd (Y.loadK z76 [.int .i64 y.f0, .int .i64 y.f1, .int .i64 y.f2, .int .i64 y.f3] rfl rfl agg76 (by repeat (first | exact .head _ | refine .tail _ ?_)) ((s.getD ((k : Int) - 1).toNat 0)) (by omega) (by omega) (by rfl) (fun w cs h => (k76_open h).trans huy) (by rfl)) rfl rfl rfl ?_
              | refine Jl.yd (Y.loadK z76 [.int .i64 x.f0, .int .i64 x.f1, .int .i64 x.f2, .int .i64 x.f3] rfl rfl agg76 (by repeat (first | exact .head _ | refine .tail _ ?_)) ((i : Int)) (by omega) (by omega) (by rfl) (fun w cs h => (k76_open h).trans hux) (by rfl)) rfl rfl rfl ?_
              | refine Jl.call1 (v := .int .i64 (mm wd cs y)) rfl rfl rfl rfl en123 rfl (fun w hW => by with_reducible exact minS hg' hyo A0 c0 w (hW.fact (p := (fun W => Kd.C (Kd.int .i64) W A0 cs.length cs)) (by repeat (first | exact memH | refine memT ?_))) hc) ?_
              | refine Jl.call1 (v := .int .i64 (mm wd cs x)) rfl rfl rfl rfl en123 rfl (fun w hW => by with_reducible exact minS hg' hxo A0 c0 w (hW.fact (p := (fun W => Kd.C (Kd.int .i64) W A0 cs.length cs)) (by repeat (first | exact memH | refine memT ?_))) hc) ?_
              | refine Jl.splitG rfl rfl (fun h => ?_) (fun h => ?_))
            | (apply gateE; first
              | refine Jl.nil (Ej.go ?_ (fun _ _ h => h))
              | (refine Jl.nil (Ej.back (fun _ _ h => h) (by repeat (first | exact .refl | apply DropTo.tail)) ?_); repeat (first | exact trivial | refine ⟨rfl, ?_⟩)))
            | (apply gateC; first
              | refine Cj.block rfl ?_
              | refine Cj.regionD rfl (mkD [0, 1, 2, 3, 4, 5, 6, 7, 8, 9, 10, 11, 12, 13, 14, 15, 16, 19, 20] []) [] [0, 1, 2, 3, 4, 5, 6, 7, 8, 9, 10, 11, 13, 14, 15, 16, 17, 12, 18, 19, 20] mixed (by decide +kernel) ?_
              | refine Cj.condF rfl rfl (Cj.skip rfl (Ej.go ?_ (fun _ _ h => h)))
              | (refine Cj.condF rfl rfl (Cj.skip rfl (Ej.back (fun _ _ h => h) (by repeat (first | exact .refl | apply DropTo.tail)) ?_)); repeat (first | exact trivial | refine ⟨rfl, ?_⟩))
              | refine Cj.condF rfl rfl ?_
              | refine Cj.condT rfl rfl ?_
              | refine Cj.exit rfl (Ej.go ?_ (fun _ _ h => h))
              | refine Cj.cond rfl rfl (fun h => ?_) (fun h => ?_)
              | refine Cj.skip rfl (Ej.go ?_ (fun _ _ h => h))
              | (refine Cj.skip rfl (Ej.back (fun _ _ h => h) (by repeat (first | exact .refl | apply DropTo.tail)) ?_); repeat (first | exact trivial | refine ⟨rfl, ?_⟩))
              | refine Cj.seq rfl ?_
              | refine Cj.region rfl ?_))
        refine Cj.regionJ rfl [0, 4, 6, 7, 11] mixed ?_
        refine Jw.take 1 rfl (by decide +kernel) (by intro c a d v w h; cases d <;> exact h) (fun w => Y.mv rfl rfl) rfl rfl rfl ?_
        refine Jw.take 2 rfl (by decide +kernel) (by intro c a d v w h; cases d <;> exact h) (fun w => Y.mv rfl rfl) rfl rfl rfl ?_
        refine Jw.take 5 rfl (by decide +kernel) (by intro c a d v w h; cases d <;> exact h) (fun w => Y.mv rfl rfl) rfl rfl rfl ?_
        refine Jw.take 8 rfl (by decide +kernel) (by intro c a d v w h; cases d <;> exact h) (fun w => Y.mv rfl rfl) rfl rfl rfl ?_
        refine Jw.take 9 rfl (by decide +kernel) (by intro c a d v w h; cases d <;> exact h) (fun w => Y.mv rfl rfl) rfl rfl rfl ?_
        refine Jw.take 3 rfl (by decide +kernel) (by intro c a d v w h; cases d <;> exact h) (fun w => Y.sliTo rfl rfl rfl el24 (by omega) (by omega)) rfl rfl rfl ?_
        refine Jw.take 10 rfl (by decide +kernel) (by intro c a d v w h; cases d <;> exact h) (fun w => Y.sliFrom rfl rfl rfl el24 (by omega) (by omega)) rfl rfl rfl ?_
        refine Jw.br2 (mkD [] [0]) 0 6 rfl rfl (by decide +kernel) rfl rfl ?_ ?_
        · skip
          refine Jl.lit0 KI rfl rfl rfl rfl el24 (fun g0 => ?_)
          refine Jl.jw ?_
          refine Jw.br2 (mkD [] [0]) 4 6 rfl rfl (by decide +kernel) rfl rfl ?_ ?_
          · skip
            refine Jl.appI (xs := []) (zs := s.take k) rfl rfl rfl rfl rfl rfl ap24 (by rw [List.length_take]; omega) (by repeat (first | exact memH | refine memT ?_)) (by repeat (first | exact .z | apply OutAt.s)) (by try simp only [List.length_append, List.length_cons, List.length_nil, List.length_take, List.length_drop]; omega) (fun A4 c4 h4 => ?_)
            refine Jl.jw ?_
            refine Jw.step (mkD [] [0]) 6 rfl (by decide +kernel) rfl rfl ?_
            refine Jl.lit1 rfl rfl rfl rfl rfl el24 zero3 rfl (fun g6 => ?_)
            refine Jl.jw ?_
            refine Jw.step (mkD [] [0]) 7 rfl (by decide +kernel) rfl rfl ?_
            refine Jl.app (dk := KI) (xs := [] ++ s.take k) (i : Int) (fun _ => False) rfl rfl rfl rfl rfl rfl ap24 (by repeat (first | exact .head _ | refine .tail _ ?_)) rfl (fun w => rfl) (fun u hu => by rw [List.mem_singleton.1 hu]; rfl) (by repeat (first | exact .z | apply OutAt.s)) (by try simp only [List.length_append, List.length_cons, List.length_nil, List.length_take, List.length_drop]; omega) (by try simp only [List.length_append, List.length_cons, List.length_nil, List.length_take, List.length_drop]; omega) (fun A7 c7 h7 => ?_)
            refine Jl.jw ?_
            refine Jw.step (mkD [] [0]) 11 rfl (by decide +kernel) rfl rfl ?_
            refine Jl.appI (xs := ([] ++ s.take k) ++ [(i : Int)]) (zs := s.drop k) rfl rfl rfl rfl rfl rfl ap24 (by rw [List.length_drop]; omega) (by repeat (first | exact memH | refine memT ?_)) (by repeat (first | exact .z | apply OutAt.s)) (by try simp only [List.length_append, List.length_cons, List.length_nil, List.length_take, List.length_drop]; omega) (fun A11 c11 h11 => ?_)
            refine Jl.jw ?_
            refine Jw.take 12 rfl (by decide +kernel) (by intro c a d v w h; cases d <;> exact h) (fun w => Y.asg rfl rfl) rfl rfl rfl ?_
            refine Jw.done (by decide +kernel) (Ej.go ?_ (fun _ _ h => h))
            repeat (first
                | (apply gateO; first
                  | refine Jl.yd (Y.mv rfl rfl) rfl rfl rfl ?_
                  | refine Jl.yd (Y.asg rfl rfl) rfl rfl rfl ?_
                  | refine Jl.yd (Y.ext rfl rfl rfl) rfl rfl rfl ?_
                  | refine Jl.yd (Y.pickT rfl rfl rfl) rfl rfl rfl ?_
                  | refine Jl.yd (Y.pickF rfl rfl rfl) rfl rfl rfl ?_
                  | refine Jl.off rfl rfl rfl ?_
                  | refine Jl.yd (Y.cmpF rfl rfl rfl rfl (by omega)) rfl rfl rfl ?_
                  | refine Jl.yd (Y.cmpT rfl rfl rfl rfl (by omega)) rfl rfl rfl ?_
                  | refine Jl.yd (Y.neqB rfl rfl rfl Try.underlying4) rfl rfl rfl ?_
                  | refine Jl.yd (Y.cmp rfl rfl rfl rfl) rfl rfl rfl ?_
                  | refine Jl.yd (Y.not rfl rfl) rfl rfl rfl ?_
                  | refine Jl.yd (Y.arithN rfl rfl rfl rfl (by omega)) rfl rfl rfl ?_
                  | refine Jl.yd (Y.arith64 rfl rfl rfl rfl) rfl rfl rfl ?_
                  | refine Jl.yd (Y.loadA rfl rfl agg26 (by repeat (first | exact .head _ | refine .tail _ ?_)) (by rfl)) rfl rfl rfl ?_
                  | refine Jl.yd (Y.lenS Try.underlying65 rfl rfl rfl) rfl rfl rfl ?_
                  | refine Jl.yd (Y.lenS Try.underlying24 rfl rfl rfl) rfl rfl rfl ?_
                  | refine Jl.splitG rfl rfl (fun h => ?_) (fun h => ?_))
                | (apply gateE; first
                  | refine Jl.nil (Ej.go ?_ (fun _ _ h => h))
                  | (refine Jl.nil (Ej.back (fun _ _ h => h) (by repeat (first | exact .refl | apply DropTo.tail)) ?_); repeat (first | exact trivial | refine ⟨rfl, ?_⟩)))
                | (apply gateC; first
                  | refine Cj.block rfl ?_
                  | refine Cj.condF rfl rfl (Cj.skip rfl (Ej.go ?_ (fun _ _ h => h)))
                  | (refine Cj.condF rfl rfl (Cj.skip rfl (Ej.back (fun _ _ h => h) (by repeat (first | exact .refl | apply DropTo.tail)) ?_)); repeat (first | exact trivial | refine ⟨rfl, ?_⟩))
                  | refine Cj.condF rfl rfl ?_
                  | refine Cj.condT rfl rfl ?_
                  | refine Cj.exit rfl (Ej.go ?_ (fun _ _ h => h))
                  | refine Cj.cond rfl rfl (fun h => ?_) (fun h => ?_)
                  | refine Cj.skip rfl (Ej.go ?_ (fun _ _ h => h))
                  | (refine Cj.skip rfl (Ej.back (fun _ _ h => h) (by repeat (first | exact .refl | apply DropTo.tail)) ?_); repeat (first | exact trivial | refine ⟨rfl, ?_⟩))
                  | refine Cj.seq rfl ?_
                  | refine Cj.region rfl ?_))
            refine Jl.nil (Ej.cutP (ι := Nat × Option Addr × Nat × List Int) _ _ _ _ (fun _ _ h => h) (i + 1, A11, c11, (([] ++ s.take k) ++ [(i : Int)]) ++ s.drop k) ⟨⟨by omega, fin, h11⟩, by dsimp only; omega⟩ ⟨rfl, rfl, rfl, rfl, trivial⟩ (by repeat (first | exact .nil | refine Pick.cons (by repeat (first | exact .z | apply OutAt.s)) ?_)) (fun p hp => List.mem_cons_of_mem _ (List.mem_cons_of_mem _ (List.mem_cons_of_mem _ hp))))
          · skip
            refine Jl.lit1 rfl rfl rfl rfl rfl el24 zero3 rfl (fun g6 => ?_)
            refine Jl.jw ?_
            refine Jw.step (mkD [] [0]) 4 rfl (by decide +kernel) rfl rfl ?_
            refine Jl.appI (xs := []) (zs := s.take k) rfl rfl rfl rfl rfl rfl ap24 (by rw [List.length_take]; omega) (by repeat (first | exact memH | refine memT ?_)) (by repeat (first | exact .z | apply OutAt.s)) (by try simp only [List.length_append, List.length_cons, List.length_nil, List.length_take, List.length_drop]; omega) (fun A4 c4 h4 => ?_)
            refine Jl.jw ?_
            refine Jw.step (mkD [] [0]) 7 rfl (by decide +kernel) rfl rfl ?_
            refine Jl.app (dk := KI) (xs := [] ++ s.take k) (i : Int) (fun _ => False) rfl rfl rfl rfl rfl rfl ap24 (by repeat (first | exact .head _ | refine .tail _ ?_)) rfl (fun w => rfl) (fun u hu => by rw [List.mem_singleton.1 hu]; rfl) (by repeat (first | exact .z | apply OutAt.s)) (by try simp only [List.length_append, List.length_cons, List.length_nil, List.length_take, List.length_drop]; omega) (by try simp only [List.length_append, List.length_cons, List.length_nil, List.length_take, List.length_drop]; omega) (fun A7 c7 h7 => ?_)
            refine Jl.jw ?_
            refine Jw.step (mkD [] [0]) 11 rfl (by decide +kernel) rfl rfl ?_
            refine Jl.appI (xs := ([] ++ s.take k) ++ [(i : Int)]) (zs := s.drop k) rfl rfl rfl rfl rfl rfl ap24 (by rw [List.length_drop]; omega) (by repeat (first | exact memH | refine memT ?_)) (by repeat (first | exact .z | apply OutAt.s)) (by try simp only [List.length_append, List.length_cons, List.length_nil, List.length_take, List.length_drop]; omega) (fun A11 c11 h11 => ?_)
            refine Jl.jw ?_
            refine Jw.take 12 rfl (by decide +kernel) (by intro c a d v w h; cases d <;> exact h) (fun w => Y.asg rfl rfl) rfl rfl rfl ?_
            refine Jw.done (by decide +kernel) (Ej.go ?_ (fun _ _ h => h))
            repeat (first
                | (apply gateO; first
                  | refine Jl.yd (Y.mv rfl rfl) rfl rfl rfl ?_
                  | refine Jl.yd (Y.asg rfl rfl) rfl rfl rfl ?_
                  | refine Jl.yd (Y.ext rfl rfl rfl) rfl rfl rfl ?_
                  | refine Jl.yd (Y.pickT rfl rfl rfl) rfl rfl rfl ?_
                  | refine Jl.yd (Y.pickF rfl rfl rfl) rfl rfl rfl ?_
                  | refine Jl.off rfl rfl rfl ?_
                  | refine Jl.yd (Y.cmpF rfl rfl rfl rfl (by omega)) rfl rfl rfl ?_
                  | refine Jl.yd (Y.cmpT rfl rfl rfl rfl (by omega)) rfl rfl rfl ?_
                  | refine Jl.yd (Y.neqB rfl rfl rfl Try.underlying4) rfl rfl rfl ?_
                  | refine Jl.yd (Y.cmp rfl rfl rfl rfl) rfl rfl rfl ?_
                  | refine Jl.yd (Y.not rfl rfl) rfl rfl rfl ?_
                  | refine Jl.yd (Y.arithN rfl rfl rfl rfl (by omega)) rfl rfl rfl ?_
                  | refine Jl.yd (Y.arith64 rfl rfl rfl rfl) rfl rfl rfl ?_
                  | refine Jl.yd (Y.loadA rfl rfl agg26 (by repeat (first | exact .head _ | refine .tail _ ?_)) (by rfl)) rfl rfl rfl ?_
                  | refine Jl.yd (Y.lenS Try.underlying65 rfl rfl rfl) rfl rfl rfl ?_
                  | refine Jl.yd (Y.lenS Try.underlying24 rfl rfl rfl) rfl rfl rfl ?_
                  | refine Jl.splitG rfl rfl (fun h => ?_) (fun h => ?_))
                | (apply gateE; first
                  | refine Jl.nil (Ej.go ?_ (fun _ _ h => h))
                  | (refine Jl.nil (Ej.back (fun _ _ h => h) (by repeat (first | exact .refl | apply DropTo.tail)) ?_); repeat (first | exact trivial | refine ⟨rfl, ?_⟩)))
                | (apply gateC; first
                  | refine Cj.block rfl ?_
                  | refine Cj.condF rfl rfl (Cj.skip rfl (Ej.go ?_ (fun _ _ h => h)))
                  | (refine Cj.condF rfl rfl (Cj.skip rfl (Ej.back (fun _ _ h => h) (by repeat (first | exact .refl | apply DropTo.tail)) ?_)); repeat (first | exact trivial | refine ⟨rfl, ?_⟩))
                  | refine Cj.condF rfl rfl ?_
                  | refine Cj.condT rfl rfl ?_
                  | refine Cj.exit rfl (Ej.go ?_ (fun _ _ h => h))
                  | refine Cj.cond rfl rfl (fun h => ?_) (fun h => ?_)
                  | refine Cj.skip rfl (Ej.go ?_ (fun _ _ h => h))
                  | (refine Cj.skip rfl (Ej.back (fun _ _ h => h) (by repeat (first | exact .refl | apply DropTo.tail)) ?_); repeat (first | exact trivial | refine ⟨rfl, ?_⟩))
                  | refine Cj.seq rfl ?_
                  | refine Cj.region rfl ?_))
            refine Jl.nil (Ej.cutP (ι := Nat × Option Addr × Nat × List Int) _ _ _ _ (fun _ _ h => h) (i + 1, A11, c11, (([] ++ s.take k) ++ [(i : Int)]) ++ s.drop k) ⟨⟨by omega, fin, h11⟩, by dsimp only; omega⟩ ⟨rfl, rfl, rfl, rfl, trivial⟩ (by repeat (first | exact .nil | refine Pick.cons (by repeat (first | exact .z | apply OutAt.s)) ?_)) (fun p hp => List.mem_cons_of_mem _ (List.mem_cons_of_mem _ (List.mem_cons_of_mem _ hp))))
        · skip
          refine Jl.lit1 rfl rfl rfl rfl rfl el24 zero3 rfl (fun g6 => ?_)
          refine Jl.jw ?_
          refine Jw.step (mkD [] [0]) 0 rfl (by decide +kernel) rfl rfl ?_
          refine Jl.lit0 KI rfl rfl rfl rfl el24 (fun g0 => ?_)
          refine Jl.jw ?_
          refine Jw.step (mkD [] [0]) 4 rfl (by decide +kernel) rfl rfl ?_
          refine Jl.appI (xs := []) (zs := s.take k) rfl rfl rfl rfl rfl rfl ap24 (by rw [List.length_take]; omega) (by repeat (first | exact memH | refine memT ?_)) (by repeat (first | exact .z | apply OutAt.s)) (by try simp only [List.length_append, List.length_cons, List.length_nil, List.length_take, List.length_drop]; omega) (fun A4 c4 h4 => ?_)
          refine Jl.jw ?_
          refine Jw.step (mkD [] [0]) 7 rfl (by decide +kernel) rfl rfl ?_
          refine Jl.app (dk := KI) (xs := [] ++ s.take k) (i : Int) (fun _ => False) rfl rfl rfl rfl rfl rfl ap24 (by repeat (first | exact .head _ | refine .tail _ ?_)) rfl (fun w => rfl) (fun u hu => by rw [List.mem_singleton.1 hu]; rfl) (by repeat (first | exact .z | apply OutAt.s)) (by try simp only [List.length_append, List.length_cons, List.length_nil, List.length_take, List.length_drop]; omega) (by try simp only [List.length_append, List.length_cons, List.length_nil, List.length_take, List.length_drop]; omega) (fun A7 c7 h7 => ?_)
          refine Jl.jw ?_
          refine Jw.step (mkD [] [0]) 11 rfl (by decide +kernel) rfl rfl ?_
          refine Jl.appI (xs := ([] ++ s.take k) ++ [(i : Int)]) (zs := s.drop k) rfl rfl rfl rfl rfl rfl ap24 (by rw [List.length_drop]; omega) (by repeat (first | exact memH | refine memT ?_)) (by repeat (first | exact .z | apply OutAt.s)) (by try simp only [List.length_append, List.length_cons, List.length_nil, List.length_take, List.length_drop]; omega) (fun A11 c11 h11 => ?_)
          refine Jl.jw ?_
          refine Jw.take 12 rfl (by decide +kernel) (by intro c a d v w h; cases d <;> exact h) (fun w => Y.asg rfl rfl) rfl rfl rfl ?_
          refine Jw.done (by decide +kernel) (Ej.go ?_ (fun _ _ h => h))
          repeat (first
              | (apply gateO; first
                | refine Jl.yd (Y.mv rfl rfl) rfl rfl rfl ?_
                | refine Jl.yd (Y.asg rfl rfl) rfl rfl rfl ?_
                | refine Jl.yd (Y.ext rfl rfl rfl) rfl rfl rfl ?_
                | refine Jl.yd (Y.pickT rfl rfl rfl) rfl rfl rfl ?_
                | refine Jl.yd (Y.pickF rfl rfl rfl) rfl rfl rfl ?_
                | refine Jl.off rfl rfl rfl ?_
                | refine Jl.yd (Y.cmpF rfl rfl rfl rfl (by omega)) rfl rfl rfl ?_
                | refine Jl.yd (Y.cmpT rfl rfl rfl rfl (by omega)) rfl rfl rfl ?_
                | refine Jl.yd (Y.neqB rfl rfl rfl Try.underlying4) rfl rfl rfl ?_
                | refine Jl.yd (Y.cmp rfl rfl rfl rfl) rfl rfl rfl ?_
                | refine Jl.yd (Y.not rfl rfl) rfl rfl rfl ?_
                | refine Jl.yd (Y.arithN rfl rfl rfl rfl (by omega)) rfl rfl rfl ?_
                | refine Jl.yd (Y.arith64 rfl rfl rfl rfl) rfl rfl rfl ?_
                | refine Jl.yd (Y.loadA rfl rfl agg26 (by repeat (first | exact .head _ | refine .tail _ ?_)) (by rfl)) rfl rfl rfl ?_
                | refine Jl.yd (Y.lenS Try.underlying65 rfl rfl rfl) rfl rfl rfl ?_
                | refine Jl.yd (Y.lenS Try.underlying24 rfl rfl rfl) rfl rfl rfl ?_
                | refine Jl.splitG rfl rfl (fun h => ?_) (fun h => ?_))
              | (apply gateE; first
                | refine Jl.nil (Ej.go ?_ (fun _ _ h => h))
                | (refine Jl.nil (Ej.back (fun _ _ h => h) (by repeat (first | exact .refl | apply DropTo.tail)) ?_); repeat (first | exact trivial | refine ⟨rfl, ?_⟩)))
              | (apply gateC; first
                | refine Cj.block rfl ?_
                | refine Cj.condF rfl rfl (Cj.skip rfl (Ej.go ?_ (fun _ _ h => h)))
                | (refine Cj.condF rfl rfl (Cj.skip rfl (Ej.back (fun _ _ h => h) (by repeat (first | exact .refl | apply DropTo.tail)) ?_)); repeat (first | exact trivial | refine ⟨rfl, ?_⟩))
                | refine Cj.condF rfl rfl ?_
                | refine Cj.condT rfl rfl ?_
                | refine Cj.exit rfl (Ej.go ?_ (fun _ _ h => h))
                | refine Cj.cond rfl rfl (fun h => ?_) (fun h => ?_)
                | refine Cj.skip rfl (Ej.go ?_ (fun _ _ h => h))
                | (refine Cj.skip rfl (Ej.back (fun _ _ h => h) (by repeat (first | exact .refl | apply DropTo.tail)) ?_); repeat (first | exact trivial | refine ⟨rfl, ?_⟩))
                | refine Cj.seq rfl ?_
                | refine Cj.region rfl ?_))
          refine Jl.nil (Ej.cutP (ι := Nat × Option Addr × Nat × List Int) _ _ _ _ (fun _ _ h => h) (i + 1, A11, c11, (([] ++ s.take k) ++ [(i : Int)]) ++ s.drop k) ⟨⟨by omega, fin, h11⟩, by dsimp only; omega⟩ ⟨rfl, rfl, rfl, rfl, trivial⟩ (by repeat (first | exact .nil | refine Pick.cons (by repeat (first | exact .z | apply OutAt.s)) ?_)) (fun p hp => List.mem_cons_of_mem _ (List.mem_cons_of_mem _ (List.mem_cons_of_mem _ hp))))
  · obtain rfl : i = l.length := by omega
    subst hs
    repeat (first
    | (apply gateO; first
      | refine Jl.yd (Y.mv rfl rfl) rfl rfl rfl ?_
      | refine Jl.yd (Y.asg rfl rfl) rfl rfl rfl ?_
      | refine Jl.yd (Y.ext rfl rfl rfl) rfl rfl rfl ?_
      | refine Jl.yd (Y.pickT rfl rfl rfl) rfl rfl rfl ?_
      | refine Jl.yd (Y.pickF rfl rfl rfl) rfl rfl rfl ?_
      | refine Jl.off rfl rfl rfl ?_
      | refine Jl.yd (Y.cmpF rfl rfl rfl rfl (by omega)) rfl rfl rfl ?_
      | refine Jl.yd (Y.cmpT rfl rfl rfl rfl (by omega)) rfl rfl rfl ?_
      | refine Jl.yd (Y.neqB rfl rfl rfl Try.underlying4) rfl rfl rfl ?_
      | refine Jl.yd (Y.cmp rfl rfl rfl rfl) rfl rfl rfl ?_
      | refine Jl.yd (Y.not rfl rfl) rfl rfl rfl ?_
      | refine Jl.yd (Y.arithN rfl rfl rfl rfl (by omega)) rfl rfl rfl ?_
      | refine Jl.yd (Y.arith64 rfl rfl rfl rfl) rfl rfl rfl ?_
      | refine Jl.yd (Y.loadA rfl rfl agg26 (by repeat (first | exact .head _ | refine .tail _ ?_)) (by rfl)) rfl rfl rfl ?_
      | refine Jl.yd (Y.lenS Try.underlying65 rfl rfl rfl) rfl rfl rfl ?_
      | refine Jl.yd (Y.lenS Try.underlying24 rfl rfl rfl) rfl rfl rfl ?_
      | refine Jl.splitG rfl rfl (fun h => ?_) (fun h => ?_))
    | (apply gateE; first
      | refine Jl.nil (Ej.go ?_ (fun _ _ h => h))
      | (refine Jl.nil (Ej.back (fun _ _ h => h) (by repeat (first | exact .refl | apply DropTo.tail)) ?_); repeat (first | exact trivial | refine ⟨rfl, ?_⟩)))
    | (apply gateC; first
      | refine Cj.block rfl ?_
      | refine Cj.ret rfl (Ej.out1 (P := Try.prog) (fn := Try.f120) (R := Rr) (fun _ _ h => h) rfl rfl (fun w' hW => ⟨_, rfl, outI hW (by repeat (first | exact .nil | refine Pick.cons (by repeat (first | exact .z | apply OutAt.s)) ?_)), hW.below⟩))
      | refine Cj.condF rfl rfl (Cj.skip rfl (Ej.go ?_ (fun _ _ h => h)))
      | (refine Cj.condF rfl rfl (Cj.skip rfl (Ej.back (fun _ _ h => h) (by repeat (first | exact .refl | apply DropTo.tail)) ?_)); repeat (first | exact trivial | refine ⟨rfl, ?_⟩))
      | refine Cj.condF rfl rfl ?_
      | refine Cj.condT rfl rfl ?_
      | refine Cj.exit rfl (Ej.go ?_ (fun _ _ h => h))
      | refine Cj.cond rfl rfl (fun h => ?_) (fun h => ?_)
      | refine Cj.skip rfl (Ej.go ?_ (fun _ _ h => h))
      | (refine Cj.skip rfl (Ej.back (fun _ _ h => h) (by repeat (first | exact .refl | apply DropTo.tail)) ?_); repeat (first | exact trivial | refine ⟨rfl, ?_⟩))
      | refine Cj.seq rfl ?_
      | refine Cj.region rfl ?_))
set_option maxHeartbeats 4000000 in
/-- The reference's MendOrder at holes that are none. -/
theorem sNo {wd ht : Int} {cs : List Int} {l : List S76} (A0 : Option Addr) (c0 : Nat) (A1 : Option Addr) (c1 : Nat) (w : World) (hrC : Kd.C (Kd.int .i64) w A0 cs.length cs) (hc : cs.length ≤ c0) (hrH : Kd.C k76 w A1 l.length l) (hcl : l.length ≤ c1) (hlb : l.length ≤ 1048576) (hcb : cs.length ≤ 1048576) (hg : goodH wd ht cs l = false) : Calls Try.prog 53 #[.agg #[.int .i64 wd, .int .i64 ht, .slice A0 cs.length c0], .slice A1 l.length c1] w fun e w' => ∃ v, e = .returned (.tuple #[v, .bool false]) ∧ (Kd.int .i64).R 3 w' w.heap.size (fun _ => True) v [] ∧ Below w.heap.size w w' := by
  obtain ⟨kk, hk⟩ := (sHoles wd ht cs l hcb hlb).rounds
  rw [hg] at hk
  let Rr : Ending → World → Prop := fun e w' => ∃ v, e = .returned (.tuple #[v, .bool false]) ∧ (Kd.int .i64).R 3 w' w.heap.size (fun _ => True) v [] ∧ Below w.heap.size w w'
  refine enterW (args := [.agg #[.int .i64 wd, .int .i64 ht, .slice A0 cs.length c0], .slice A1 l.length c1]) [(fun W => Kd.C (Kd.int .i64) W A0 cs.length cs), (fun W => Kd.C k76 W A1 l.length l)] (fun p hp W hb => by
    rcases List.mem_cons.1 hp with rfl | hp
    · exact Kd.C_below hrC hb
    · rw [List.mem_singleton.1 hp]; exact Kd.C_below hrH hb) Try.func53 rfl rfl ?_
  show Cj Try.prog _ _ _ (bodyPost Try.prog Try.f53 Rr) _ _ _
  repeat (first
    | (apply gateO; first
      | refine Jl.yd (Y.mv rfl rfl) rfl rfl rfl ?_
      | refine Jl.yd (Y.asg rfl rfl) rfl rfl rfl ?_
      | refine Jl.yd (Y.ext rfl rfl rfl) rfl rfl rfl ?_
      | refine Jl.yd (Y.pickT rfl rfl rfl) rfl rfl rfl ?_
      | refine Jl.yd (Y.pickF rfl rfl rfl) rfl rfl rfl ?_
      | refine Jl.off rfl rfl rfl ?_
      | refine Jl.yd (Y.cmpF rfl rfl rfl rfl (by omega)) rfl rfl rfl ?_
      | refine Jl.yd (Y.cmpT rfl rfl rfl rfl (by omega)) rfl rfl rfl ?_
      | refine Jl.yd (Y.neqB rfl rfl rfl Try.underlying4) rfl rfl rfl ?_
      | refine Jl.yd (Y.cmp rfl rfl rfl rfl) rfl rfl rfl ?_
      | refine Jl.yd (Y.not rfl rfl) rfl rfl rfl ?_
      | refine Jl.yd (Y.arithN rfl rfl rfl rfl (by omega)) rfl rfl rfl ?_
      | refine Jl.yd (Y.arith64 rfl rfl rfl rfl) rfl rfl rfl ?_
      | refine Jl.yd (Y.loadA rfl rfl agg26 (by repeat (first | exact .head _ | refine .tail _ ?_)) (by rfl)) rfl rfl rfl ?_
      | refine Jl.yd (Y.lenS Try.underlying65 rfl rfl rfl) rfl rfl rfl ?_
      | refine Jl.yd (Y.lenS Try.underlying24 rfl rfl rfl) rfl rfl rfl ?_
      | refine Jl.box (zs := [.int .i64 wd, .int .i64 ht, .slice A0 cs.length c0]) rfl rfl rfl rfl rfl (by rfl) (fun gc => ?_)
      | refine Jl.call1 (v := .bool false) rfl rfl rfl rfl en110 rfl (fun w hW => by with_reducible exact spec_l23Good.calls kk wd ht A0 c0 cs A1 c1 l false w (hW.fact (p := (fun W => Kd.C (Kd.int .i64) W A0 cs.length cs)) (by repeat (first | exact memH | refine memT ?_))) hc (hW.fact (p := (fun W => Kd.C k76 W A1 l.length l)) (by repeat (first | exact memH | refine memT ?_))) hcl hk) ?_
      | refine Jl.lit0 KI rfl rfl rfl rfl el24 (fun g0 => ?_)
      | refine Jl.splitG rfl rfl (fun h => ?_) (fun h => ?_))
    | (apply gateE; first
      | refine Jl.nil (Ej.go ?_ (fun _ _ h => h))
      | (refine Jl.nil (Ej.back (fun _ _ h => h) (by repeat (first | exact .refl | apply DropTo.tail)) ?_); repeat (first | exact trivial | refine ⟨rfl, ?_⟩)))
    | (apply gateC; first
      | refine Cj.ret rfl (Ej.out2 (P := Try.prog) (fn := Try.f53) (R := Rr) (fun _ _ h => h) rfl rfl rfl (fun w' hW => ⟨_, rfl, outI hW (by repeat (first | exact .nil | refine Pick.cons (by repeat (first | exact .z | apply OutAt.s)) ?_)), hW.below⟩))
      | refine Cj.condF rfl rfl (Cj.skip rfl (Ej.go ?_ (fun _ _ h => h)))
      | (refine Cj.condF rfl rfl (Cj.skip rfl (Ej.back (fun _ _ h => h) (by repeat (first | exact .refl | apply DropTo.tail)) ?_)); repeat (first | exact trivial | refine ⟨rfl, ?_⟩))
      | refine Cj.condF rfl rfl ?_
      | refine Cj.condT rfl rfl ?_
      | refine Cj.exit rfl (Ej.go ?_ (fun _ _ h => h))
      | refine Cj.cond rfl rfl (fun h => ?_) (fun h => ?_)
      | refine Cj.skip rfl (Ej.go ?_ (fun _ _ h => h))
      | (refine Cj.skip rfl (Ej.back (fun _ _ h => h) (by repeat (first | exact .refl | apply DropTo.tail)) ?_); repeat (first | exact trivial | refine ⟨rfl, ?_⟩))
      | refine Cj.seq rfl ?_
      | refine Cj.region rfl ?_))
set_option maxHeartbeats 4000000 in
/-- The reference's MendOrder at holes. -/
theorem sYes {wd ht : Int} {cs : List Int} {l : List S76} (A0 : Option Addr) (c0 : Nat) (A1 : Option Addr) (c1 : Nat) (w : World) (hrC : Kd.C (Kd.int .i64) w A0 cs.length cs) (hc : cs.length ≤ c0) (hrH : Kd.C k76 w A1 l.length l) (hcl : l.length ≤ c1) (hlb : l.length ≤ 1048576) (hcb : cs.length ≤ 1048576) (hg : goodH wd ht cs l = true) : Calls Try.prog 53 #[.agg #[.int .i64 wd, .int .i64 ht, .slice A0 cs.length c0], .slice A1 l.length c1] w fun e w' => ∃ v, e = .returned (.tuple #[v, .bool true]) ∧ (Kd.int .i64).R 3 w' w.heap.size (fun _ => True) v (ordL wd cs l l.length) ∧ Below w.heap.size w w' := by
  obtain ⟨kk, hk⟩ := (sHoles wd ht cs l hcb hlb).rounds
  rw [hg] at hk
  let Rr : Ending → World → Prop := fun e w' => ∃ v, e = .returned (.tuple #[v, .bool true]) ∧ (Kd.int .i64).R 3 w' w.heap.size (fun _ => True) v (ordL wd cs l l.length) ∧ Below w.heap.size w w'
  refine enterW (args := [.agg #[.int .i64 wd, .int .i64 ht, .slice A0 cs.length c0], .slice A1 l.length c1]) [(fun W => Kd.C (Kd.int .i64) W A0 cs.length cs), (fun W => Kd.C k76 W A1 l.length l)] (fun p hp W hb => by
    rcases List.mem_cons.1 hp with rfl | hp
    · exact Kd.C_below hrC hb
    · rw [List.mem_singleton.1 hp]; exact Kd.C_below hrH hb) Try.func53 rfl rfl ?_
  show Cj Try.prog _ _ _ (bodyPost Try.prog Try.f53 Rr) _ _ _
  repeat (first
    | (apply gateO; first
      | refine Jl.yd (Y.mv rfl rfl) rfl rfl rfl ?_
      | refine Jl.yd (Y.asg rfl rfl) rfl rfl rfl ?_
      | refine Jl.yd (Y.ext rfl rfl rfl) rfl rfl rfl ?_
      | refine Jl.yd (Y.pickT rfl rfl rfl) rfl rfl rfl ?_
      | refine Jl.yd (Y.pickF rfl rfl rfl) rfl rfl rfl ?_
      | refine Jl.off rfl rfl rfl ?_
      | refine Jl.yd (Y.cmpF rfl rfl rfl rfl (by omega)) rfl rfl rfl ?_
      | refine Jl.yd (Y.cmpT rfl rfl rfl rfl (by omega)) rfl rfl rfl ?_
      | refine Jl.yd (Y.neqB rfl rfl rfl Try.underlying4) rfl rfl rfl ?_
      | refine Jl.yd (Y.cmp rfl rfl rfl rfl) rfl rfl rfl ?_
      | refine Jl.yd (Y.not rfl rfl) rfl rfl rfl ?_
      | refine Jl.yd (Y.arithN rfl rfl rfl rfl (by omega)) rfl rfl rfl ?_
      | refine Jl.yd (Y.arith64 rfl rfl rfl rfl) rfl rfl rfl ?_
      | refine Jl.yd (Y.loadA rfl rfl agg26 (by repeat (first | exact .head _ | refine .tail _ ?_)) (by rfl)) rfl rfl rfl ?_
      | refine Jl.yd (Y.lenS Try.underlying65 rfl rfl rfl) rfl rfl rfl ?_
      | refine Jl.yd (Y.lenS Try.underlying24 rfl rfl rfl) rfl rfl rfl ?_
      | refine Jl.box (zs := [.int .i64 wd, .int .i64 ht, .slice A0 cs.length c0]) rfl rfl rfl rfl rfl (by rfl) (fun gc => ?_)
      | refine Jl.call1 (v := .bool true) rfl rfl rfl rfl en110 rfl (fun w hW => by with_reducible exact spec_l23Good.calls kk wd ht A0 c0 cs A1 c1 l true w (hW.fact (p := (fun W => Kd.C (Kd.int .i64) W A0 cs.length cs)) (by repeat (first | exact memH | refine memT ?_))) hc (hW.fact (p := (fun W => Kd.C k76 W A1 l.length l)) (by repeat (first | exact memH | refine memT ?_))) hcl hk) ?_
      | refine Jl.callR 0 (fun v => v) rfl rfl rfl rfl en120 rfl (fun w hW => by with_reducible exact order_ A0 c0 A1 c1 w (hW.fact (p := (fun W => Kd.C (Kd.int .i64) W A0 cs.length cs)) (by repeat (first | exact memH | refine memT ?_))) hc (hW.fact (p := (fun W => Kd.C k76 W A1 l.length l)) (by repeat (first | exact memH | refine memT ?_))) hcl hg) (fun A9 c9 h9 => ?_)
      | refine Jl.splitG rfl rfl (fun h => ?_) (fun h => ?_))
    | (apply gateE; first
      | refine Jl.nil (Ej.go ?_ (fun _ _ h => h))
      | (refine Jl.nil (Ej.back (fun _ _ h => h) (by repeat (first | exact .refl | apply DropTo.tail)) ?_); repeat (first | exact trivial | refine ⟨rfl, ?_⟩)))
    | (apply gateC; first
      | refine Cj.ret rfl (Ej.out2 (P := Try.prog) (fn := Try.f53) (R := Rr) (fun _ _ h => h) rfl rfl rfl (fun w' hW => ⟨_, rfl, outI hW (by repeat (first | exact .nil | refine Pick.cons (by repeat (first | exact .z | apply OutAt.s)) ?_)), hW.below⟩))
      | refine Cj.condF rfl rfl (Cj.skip rfl (Ej.go ?_ (fun _ _ h => h)))
      | (refine Cj.condF rfl rfl (Cj.skip rfl (Ej.back (fun _ _ h => h) (by repeat (first | exact .refl | apply DropTo.tail)) ?_)); repeat (first | exact trivial | refine ⟨rfl, ?_⟩))
      | refine Cj.condF rfl rfl ?_
      | refine Cj.condT rfl rfl ?_
      | refine Cj.exit rfl (Ej.go ?_ (fun _ _ h => h))
      | refine Cj.cond rfl rfl (fun h => ?_) (fun h => ?_)
      | refine Cj.skip rfl (Ej.go ?_ (fun _ _ h => h))
      | (refine Cj.skip rfl (Ej.back (fun _ _ h => h) (by repeat (first | exact .refl | apply DropTo.tail)) ?_); repeat (first | exact trivial | refine ⟨rfl, ?_⟩))
      | refine Cj.seq rfl ?_
      | refine Cj.region rfl ?_))
end MO
end Go.Proofs.Ytkglpfdoefdhdaa.WK

namespace Go.Proofs.Ytkglpfdoefdhdaa.WK
open Go Go.RowKit Go.Proofs.Ytkglpfdoefdhdaa.Q Go.Proofs.Ytkglpfdoefdhdaa.M Go.Proofs.YtkglpfdoefdhdaaW.PrintWords Go.Proofs.YtkglpfdoefdhdaaW.SL
open Go.Proofs.YtkglpfdoefdhdaaW.Pl (nth nth_get)
open Go.Proofs.Ytkglpfdoefdhdaa.M.MN (mm lostL lostE)
set_option linter.unusedSimpArgs false
set_option linter.unusedVariables false
set_option maxRecDepth 100000
namespace FM
open MO (ordL ordL_len ordL_mem mixed agg26 agg76 el24 el65 sc3 sc65 ap24 goodHole rng rng_succ rng_len order_ minS en120 en123 en110 zero3)
open MQ (mend leftL hasInts left_eq)
theorem en91 : Ent Try.prog 91 := ⟨enters_of Try.func91 (by kernel_rfl) rfl⟩
theorem en95 : Ent Try.prog 95 := ⟨enters_of Try.func95 (by kernel_rfl) rfl⟩
theorem inS {m : Int} {b : Bool} (h : decide (0 ≤ m ∧ m ≤ 10000) = b) (w : World) : Calls Try.prog 91 #[.int .i64 m, .int .i64 0, .int .i64 10000] w fun e w' => e = .returned (.bool b) ∧ Below w.heap.size w w' :=
  (spec_l1In.calls m 0 10000 b w (by rw [l1In, h])).mono (fun _ _ hh => ⟨hh.1, hh.2.below⟩)
set_option maxHeartbeats 4000000 in
theorem sNo {wd ht : Int} {cs : List Int} {l : List S76} (m0 : Int) (A0 : Option Addr) (c0 : Nat) (A1 : Option Addr) (c1 : Nat) (w : World) (hrC : Kd.C (Kd.int .i64) w A0 cs.length cs) (hc : cs.length ≤ c0) (hrH : Kd.C k76 w A1 l.length l) (hcl : l.length ≤ c1) (hlb : l.length ≤ 1048576) (hcb : cs.length ≤ 1048576) (hg : goodH wd ht cs l = false) : Calls Try.prog 55 #[.agg #[.int .i64 wd, .int .i64 ht, .slice A0 cs.length c0], .slice A1 l.length c1, .int .i64 m0] w fun e w' => ∃ v, e = .returned (.tuple #[v, .bool false]) ∧ k76.R 76 w' w.heap.size (fun _ => True) v [] ∧ Below w.heap.size w w' := by
  obtain ⟨kk, hk⟩ := (sHoles wd ht cs l hcb hlb).rounds
  rw [hg] at hk
  let Rr : Ending → World → Prop := fun e w' => ∃ v, e = .returned (.tuple #[v, .bool false]) ∧ k76.R 76 w' w.heap.size (fun _ => True) v [] ∧ Below w.heap.size w w'
  refine enterW (args := [.agg #[.int .i64 wd, .int .i64 ht, .slice A0 cs.length c0], .slice A1 l.length c1, .int .i64 m0]) [(fun W => Kd.C (Kd.int .i64) W A0 cs.length cs), (fun W => Kd.C k76 W A1 l.length l)] (fun p hp W hb => by
    rcases List.mem_cons.1 hp with rfl | hp
    · exact Kd.C_below hrC hb
    · rw [List.mem_singleton.1 hp]; exact Kd.C_below hrH hb) Try.func55 rfl rfl ?_
  show Cj Try.prog _ _ _ (bodyPost Try.prog Try.f55 Rr) _ _ _
  repeat (first
    | (apply gateO; first
      | refine Jl.yd (Y.mv rfl rfl) rfl rfl rfl ?_
      | refine Jl.yd (Y.asg rfl rfl) rfl rfl rfl ?_
      | refine Jl.yd (Y.ext rfl rfl rfl) rfl rfl rfl ?_
      | refine Jl.yd (Y.pickT rfl rfl rfl) rfl rfl rfl ?_
      | refine Jl.yd (Y.pickF rfl rfl rfl) rfl rfl rfl ?_
      | refine Jl.off rfl rfl rfl ?_
      | refine Jl.yd (Y.cmpF rfl rfl rfl rfl (by omega)) rfl rfl rfl ?_
      | refine Jl.yd (Y.cmpT rfl rfl rfl rfl (by omega)) rfl rfl rfl ?_
      | refine Jl.yd (Y.neqB rfl rfl rfl Try.underlying4) rfl rfl rfl ?_
      | refine Jl.yd (Y.cmp rfl rfl rfl rfl) rfl rfl rfl ?_
      | refine Jl.yd (Y.not rfl rfl) rfl rfl rfl ?_
      | refine Jl.yd (Y.arithN rfl rfl rfl rfl (by omega)) rfl rfl rfl ?_
      | refine Jl.yd (Y.arith64 rfl rfl rfl rfl) rfl rfl rfl ?_
      | refine Jl.yd (Y.loadA rfl rfl agg26 (by repeat (first | exact .head _ | refine .tail _ ?_)) (by rfl)) rfl rfl rfl ?_
      | refine Jl.yd (Y.lenS Try.underlying65 rfl rfl rfl) rfl rfl rfl ?_
      | refine Jl.yd (Y.lenS Try.underlying24 rfl rfl rfl) rfl rfl rfl ?_
      | refine Jl.box (zs := [.int .i64 wd, .int .i64 ht, .slice A0 cs.length c0]) rfl rfl rfl rfl rfl (by rfl) (fun gc => ?_)
      | refine Jl.lit0 k76 rfl rfl rfl rfl el65 (fun gr => ?_)
      | refine Jl.call1 (v := .bool false) rfl rfl rfl rfl en110 rfl (fun w hW => by with_reducible exact spec_l23Good.calls kk wd ht A0 c0 cs A1 c1 l false w (hW.fact (p := (fun W => Kd.C (Kd.int .i64) W A0 cs.length cs)) (by repeat (first | exact memH | refine memT ?_))) hc (hW.fact (p := (fun W => Kd.C k76 W A1 l.length l)) (by repeat (first | exact memH | refine memT ?_))) hcl hk) ?_
      | refine Jl.splitG rfl rfl (fun h => ?_) (fun h => ?_))
    | (apply gateE; first
      | refine Jl.nil (Ej.go ?_ (fun _ _ h => h))
      | (refine Jl.nil (Ej.back (fun _ _ h => h) (by repeat (first | exact .refl | apply DropTo.tail)) ?_); repeat (first | exact trivial | refine ⟨rfl, ?_⟩)))
    | (apply gateC; first
      | refine Cj.ret rfl (Ej.out2 (P := Try.prog) (fn := Try.f55) (R := Rr) (fun _ _ h => h) rfl rfl rfl (fun w' hW => ⟨_, rfl, outH hW (by repeat (first | exact .nil | refine Pick.cons (by repeat (first | exact .z | apply OutAt.s)) ?_)), hW.below⟩))
      | refine Cj.condF rfl rfl (Cj.skip rfl (Ej.go ?_ (fun _ _ h => h)))
      | (refine Cj.condF rfl rfl (Cj.skip rfl (Ej.back (fun _ _ h => h) (by repeat (first | exact .refl | apply DropTo.tail)) ?_)); repeat (first | exact trivial | refine ⟨rfl, ?_⟩))
      | refine Cj.condF rfl rfl ?_
      | refine Cj.condT rfl rfl ?_
      | refine Cj.exit rfl (Ej.go ?_ (fun _ _ h => h))
      | refine Cj.cond rfl rfl (fun h => ?_) (fun h => ?_)
      | refine Cj.skip rfl (Ej.go ?_ (fun _ _ h => h))
      | (refine Cj.skip rfl (Ej.back (fun _ _ h => h) (by repeat (first | exact .refl | apply DropTo.tail)) ?_); repeat (first | exact trivial | refine ⟨rfl, ?_⟩))
      | refine Cj.seq rfl ?_
      | refine Cj.region rfl ?_))
set_option maxHeartbeats 4000000 in
theorem sNoM {wd ht : Int} {cs : List Int} {l : List S76} (m0 : Int) (A0 : Option Addr) (c0 : Nat) (A1 : Option Addr) (c1 : Nat) (w : World) (hrC : Kd.C (Kd.int .i64) w A0 cs.length cs) (hc : cs.length ≤ c0) (hrH : Kd.C k76 w A1 l.length l) (hcl : l.length ≤ c1) (hlb : l.length ≤ 1048576) (hcb : cs.length ≤ 1048576) (hg : goodH wd ht cs l = true) (hin : decide (0 ≤ m0 ∧ m0 ≤ 10000) = false) : Calls Try.prog 55 #[.agg #[.int .i64 wd, .int .i64 ht, .slice A0 cs.length c0], .slice A1 l.length c1, .int .i64 m0] w fun e w' => ∃ v, e = .returned (.tuple #[v, .bool false]) ∧ k76.R 76 w' w.heap.size (fun _ => True) v [] ∧ Below w.heap.size w w' := by
  obtain ⟨kk, hk⟩ := (sHoles wd ht cs l hcb hlb).rounds
  rw [hg] at hk
  let Rr : Ending → World → Prop := fun e w' => ∃ v, e = .returned (.tuple #[v, .bool false]) ∧ k76.R 76 w' w.heap.size (fun _ => True) v [] ∧ Below w.heap.size w w'
  refine enterW (args := [.agg #[.int .i64 wd, .int .i64 ht, .slice A0 cs.length c0], .slice A1 l.length c1, .int .i64 m0]) [(fun W => Kd.C (Kd.int .i64) W A0 cs.length cs), (fun W => Kd.C k76 W A1 l.length l)] (fun p hp W hb => by
    rcases List.mem_cons.1 hp with rfl | hp
    · exact Kd.C_below hrC hb
    · rw [List.mem_singleton.1 hp]; exact Kd.C_below hrH hb) Try.func55 rfl rfl ?_
  show Cj Try.prog _ _ _ (bodyPost Try.prog Try.f55 Rr) _ _ _
  repeat (first
    | (apply gateO; first
      | refine Jl.yd (Y.mv rfl rfl) rfl rfl rfl ?_
      | refine Jl.yd (Y.asg rfl rfl) rfl rfl rfl ?_
      | refine Jl.yd (Y.ext rfl rfl rfl) rfl rfl rfl ?_
      | refine Jl.yd (Y.pickT rfl rfl rfl) rfl rfl rfl ?_
      | refine Jl.yd (Y.pickF rfl rfl rfl) rfl rfl rfl ?_
      | refine Jl.off rfl rfl rfl ?_
      | refine Jl.yd (Y.cmpF rfl rfl rfl rfl (by omega)) rfl rfl rfl ?_
      | refine Jl.yd (Y.cmpT rfl rfl rfl rfl (by omega)) rfl rfl rfl ?_
      | refine Jl.yd (Y.neqB rfl rfl rfl Try.underlying4) rfl rfl rfl ?_
      | refine Jl.yd (Y.cmp rfl rfl rfl rfl) rfl rfl rfl ?_
      | refine Jl.yd (Y.not rfl rfl) rfl rfl rfl ?_
      | refine Jl.yd (Y.arithN rfl rfl rfl rfl (by omega)) rfl rfl rfl ?_
      | refine Jl.yd (Y.arith64 rfl rfl rfl rfl) rfl rfl rfl ?_
      | refine Jl.yd (Y.loadA rfl rfl agg26 (by repeat (first | exact .head _ | refine .tail _ ?_)) (by rfl)) rfl rfl rfl ?_
      | refine Jl.yd (Y.lenS Try.underlying65 rfl rfl rfl) rfl rfl rfl ?_
      | refine Jl.yd (Y.lenS Try.underlying24 rfl rfl rfl) rfl rfl rfl ?_
      | refine Jl.box (zs := [.int .i64 wd, .int .i64 ht, .slice A0 cs.length c0]) rfl rfl rfl rfl rfl (by rfl) (fun gc => ?_)
      | refine Jl.lit0 k76 rfl rfl rfl rfl el65 (fun gr => ?_)
      | refine Jl.call1 (v := .bool true) rfl rfl rfl rfl en110 rfl (fun w hW => by with_reducible exact spec_l23Good.calls kk wd ht A0 c0 cs A1 c1 l true w (hW.fact (p := (fun W => Kd.C (Kd.int .i64) W A0 cs.length cs)) (by repeat (first | exact memH | refine memT ?_))) hc (hW.fact (p := (fun W => Kd.C k76 W A1 l.length l)) (by repeat (first | exact memH | refine memT ?_))) hcl hk) ?_
      | refine Jl.call1 (v := .bool false) rfl rfl rfl rfl en91 rfl (fun w hW => by with_reducible exact inS hin w) ?_
      | refine Jl.splitG rfl rfl (fun h => ?_) (fun h => ?_))
    | (apply gateE; first
      | refine Jl.nil (Ej.go ?_ (fun _ _ h => h))
      | (refine Jl.nil (Ej.back (fun _ _ h => h) (by repeat (first | exact .refl | apply DropTo.tail)) ?_); repeat (first | exact trivial | refine ⟨rfl, ?_⟩)))
    | (apply gateC; first
      | refine Cj.ret rfl (Ej.out2 (P := Try.prog) (fn := Try.f55) (R := Rr) (fun _ _ h => h) rfl rfl rfl (fun w' hW => ⟨_, rfl, outH hW (by repeat (first | exact .nil | refine Pick.cons (by repeat (first | exact .z | apply OutAt.s)) ?_)), hW.below⟩))
      | refine Cj.condF rfl rfl (Cj.skip rfl (Ej.go ?_ (fun _ _ h => h)))
      | (refine Cj.condF rfl rfl (Cj.skip rfl (Ej.back (fun _ _ h => h) (by repeat (first | exact .refl | apply DropTo.tail)) ?_)); repeat (first | exact trivial | refine ⟨rfl, ?_⟩))
      | refine Cj.condF rfl rfl ?_
      | refine Cj.condT rfl rfl ?_
      | refine Cj.exit rfl (Ej.go ?_ (fun _ _ h => h))
      | refine Cj.cond rfl rfl (fun h => ?_) (fun h => ?_)
      | refine Cj.skip rfl (Ej.go ?_ (fun _ _ h => h))
      | (refine Cj.skip rfl (Ej.back (fun _ _ h => h) (by repeat (first | exact .refl | apply DropTo.tail)) ?_); repeat (first | exact trivial | refine ⟨rfl, ?_⟩))
      | refine Cj.seq rfl ?_
      | refine Cj.region rfl ?_))
set_option maxHeartbeats 16000000 in
/-- The reference's FirstMended. -/
theorem sYes {wd ht : Int} {cs : List Int} {l : List S76} (m0 : Int) (A0 : Option Addr) (c0 : Nat) (A1 : Option Addr) (c1 : Nat) (w : World) (hrC : Kd.C (Kd.int .i64) w A0 cs.length cs) (hc : cs.length ≤ c0) (hrH : Kd.C k76 w A1 l.length l) (hcl : l.length ≤ c1) (hlb : l.length ≤ 1048576) (hcb : cs.length ≤ 1048576) (hg : goodH wd ht cs l = true) (hin : decide (0 ≤ m0 ∧ m0 ≤ 10000) = true) : Calls Try.prog 55 #[.agg #[.int .i64 wd, .int .i64 ht, .slice A0 cs.length c0], .slice A1 l.length c1, .int .i64 m0] w fun e w' => ∃ v, e = .returned (.tuple #[v, .bool true]) ∧ k76.R 76 w' w.heap.size (fun _ => True) v (leftL wd cs l m0) ∧ Below w.heap.size w w' := by
  obtain ⟨kk, hk⟩ := (sHoles wd ht cs l hcb hlb).rounds
  rw [hg] at hk
  obtain ⟨hg', hl8, ho⟩ := goodHole hg
  have hin2 : 0 ≤ m0 ∧ m0 ≤ 10000 := of_decide_eq_true hin
  have hO := fun A0 c0 A1 c1 w h1 h2 h3 h4 => @order_ wd ht cs l A0 c0 A1 c1 w h1 h2 h3 h4 hg
  unfold leftL
  have hsl0 := ordL_len wd cs l l.length
  have hsm : ∀ a, a ∈ ordL wd cs l l.length → ∃ i : Nat, i < l.length ∧ a = (i : Int) := fun a ha => ordL_mem ha
  have hleft := left_eq wd cs l l.length
  obtain ⟨s, hs⟩ : ∃ s, ordL wd cs l l.length = s := ⟨_, rfl⟩
  rw [hs] at hO hsl0 hsm hleft ⊢
  obtain ⟨f, hf⟩ : ∃ f : Int → Int, (fun a => mm wd cs (nth l a.toNat z76)) = f := ⟨_, rfl⟩
  rw [hf]
  let Rr : Ending → World → Prop := fun e w' => ∃ v, e = .returned (.tuple #[v, .bool true]) ∧ k76.R 76 w' w.heap.size (fun _ => True) v ((sortI (s.drop (mend f m0 s))).map fun a => nth l a.toNat z76) ∧ Below w.heap.size w w'
  refine enterW (args := [.agg #[.int .i64 wd, .int .i64 ht, .slice A0 cs.length c0], .slice A1 l.length c1, .int .i64 m0]) [(fun W => Kd.C (Kd.int .i64) W A0 cs.length cs), (fun W => Kd.C k76 W A1 l.length l)] (fun p hp W hb => by
    rcases List.mem_cons.1 hp with rfl | hp
    · exact Kd.C_below hrC hb
    · rw [List.mem_singleton.1 hp]; exact Kd.C_below hrH hb) Try.func55 rfl rfl ?_
  show Cj Try.prog _ _ _ (bodyPost Try.prog Try.f55 Rr) _ _ _
  repeat (first
    | (apply gateO; first
      | refine Jl.yd (Y.mv rfl rfl) rfl rfl rfl ?_
      | refine Jl.yd (Y.asg rfl rfl) rfl rfl rfl ?_
      | refine Jl.yd (Y.ext rfl rfl rfl) rfl rfl rfl ?_
      | refine Jl.yd (Y.pickT rfl rfl rfl) rfl rfl rfl ?_
      | refine Jl.yd (Y.pickF rfl rfl rfl) rfl rfl rfl ?_
      | refine Jl.off rfl rfl rfl ?_
      | refine Jl.yd (Y.cmpF rfl rfl rfl rfl (by omega)) rfl rfl rfl ?_
      | refine Jl.yd (Y.cmpT rfl rfl rfl rfl (by omega)) rfl rfl rfl ?_
      | refine Jl.yd (Y.neqB rfl rfl rfl Try.underlying4) rfl rfl rfl ?_
      | refine Jl.yd (Y.cmp rfl rfl rfl rfl) rfl rfl rfl ?_
      | refine Jl.yd (Y.not rfl rfl) rfl rfl rfl ?_
      | refine Jl.yd (Y.arithN rfl rfl rfl rfl (by omega)) rfl rfl rfl ?_
      | refine Jl.yd (Y.arith64 rfl rfl rfl rfl) rfl rfl rfl ?_
      | refine Jl.yd (Y.loadA rfl rfl agg26 (by repeat (first | exact .head _ | refine .tail _ ?_)) (by rfl)) rfl rfl rfl ?_
      | refine Jl.yd (Y.lenS Try.underlying65 rfl rfl rfl) rfl rfl rfl ?_
      | refine Jl.yd (Y.lenS Try.underlying24 rfl rfl rfl) rfl rfl rfl ?_
      | refine Jl.box (zs := [.int .i64 wd, .int .i64 ht, .slice A0 cs.length c0]) rfl rfl rfl rfl rfl (by rfl) (fun gc => ?_)
      | refine Jl.lit0 k76 rfl rfl rfl rfl el65 (fun gr => ?_)
      | refine Jl.lit0 KI rfl rfl rfl rfl el24 (fun g0 => ?_)
      | refine Jl.call1 (v := .bool true) rfl rfl rfl rfl en110 rfl (fun w hW => by with_reducible exact spec_l23Good.calls kk wd ht A0 c0 cs A1 c1 l true w (hW.fact (p := (fun W => Kd.C (Kd.int .i64) W A0 cs.length cs)) (by repeat (first | exact memH | refine memT ?_))) hc (hW.fact (p := (fun W => Kd.C k76 W A1 l.length l)) (by repeat (first | exact memH | refine memT ?_))) hcl hk) ?_
      | refine Jl.call1 (v := .bool true) rfl rfl rfl rfl en91 rfl (fun w hW => by with_reducible exact inS hin w) ?_
      | refine Jl.callR 0 (fun v => v) rfl rfl rfl rfl en120 rfl (fun w hW => by with_reducible exact hO A0 c0 A1 c1 w (hW.fact (p := (fun W => Kd.C (Kd.int .i64) W A0 cs.length cs)) (by repeat (first | exact memH | refine memT ?_))) hc (hW.fact (p := (fun W => Kd.C k76 W A1 l.length l)) (by repeat (first | exact memH | refine memT ?_))) hcl) (fun A8 c8 h8 => ?_)
      | refine Jl.splitG rfl rfl (fun h => ?_) (fun h => ?_))
    | (apply gateE; first
      | refine Jl.nil (Ej.go ?_ (fun _ _ h => h))
      | (refine Jl.nil (Ej.back (fun _ _ h => h) (by repeat (first | exact .refl | apply DropTo.tail)) ?_); repeat (first | exact trivial | refine ⟨rfl, ?_⟩)))
    | (apply gateC; first
      | refine Cj.block rfl ?_
      | refine Cj.condF rfl rfl (Cj.skip rfl (Ej.go ?_ (fun _ _ h => h)))
      | (refine Cj.condF rfl rfl (Cj.skip rfl (Ej.back (fun _ _ h => h) (by repeat (first | exact .refl | apply DropTo.tail)) ?_)); repeat (first | exact trivial | refine ⟨rfl, ?_⟩))
      | refine Cj.condF rfl rfl ?_
      | refine Cj.condT rfl rfl ?_
      | refine Cj.exit rfl (Ej.go ?_ (fun _ _ h => h))
      | refine Cj.cond rfl rfl (fun h => ?_) (fun h => ?_)
      | refine Cj.skip rfl (Ej.go ?_ (fun _ _ h => h))
      | (refine Cj.skip rfl (Ej.back (fun _ _ h => h) (by repeat (first | exact .refl | apply DropTo.tail)) ?_); repeat (first | exact trivial | refine ⟨rfl, ?_⟩))
      | refine Cj.seq rfl ?_
      | refine Cj.region rfl ?_))
  refine Cj.ws (ι := Unit) (fun _ => s.length ≠ 0 → ∃ ad, A8 = some ad) (fun _ => [.row k76 76 0 (.slice (some ⟨gr, 0, none⟩) ([] : List S76).length 0) [], .row KI 3 0 (.slice (some ⟨g0, 0, none⟩) ([] : List Int).length 0) [], .box gc 26 [.int .i64 wd, .int .i64 ht, .slice A0 cs.length c0]]) (fun _ => [(fun W => KI.C W A8 s.length s), (fun W => Kd.C (Kd.int .i64) W A0 cs.length cs), (fun W => Kd.C k76 W A1 l.length l)]) (fun w' hW => ⟨(), (fun h0 => by
            obtain ⟨ad, e, _⟩ := (hW.rowC (dk := KI) (xs := s) memH).2.2 (by omega)
            exact ⟨ad, e⟩), by
      have := (hW.freeze (n := 0) rfl (p := (fun W => KI.C W A8 s.length s)) (fun W A' hA' => (Kd.R_reads' hA'.1).2.2))
      exact this.pick (by repeat (first | exact .nil | refine Pick.cons (by repeat (first | exact .z | apply OutAt.s)) ?_))⟩) (fun _ hAn => ?_)
  refine Cj.loopP (ι := Nat × Int × Option Addr × Nat) (fun q => q.1 ≤ s.length ∧ mend f m0 s = q.1 + mend f q.2.1 (s.drop q.1) ∧ 0 ≤ q.2.1 ∧ q.2.1 ≤ 10000) (fun q => [(1, .slice A1 l.length c1), (2, .int .i64 q.2.1), (3, .pointer (some ⟨gc, 0, none⟩)), (8, .slice (some ⟨gr, 0, none⟩) ([] : List S76).length 0), (9, .slice q.2.2.1 (s.take q.1).length q.2.2.2), (10, .slice A8 s.length c8), (11, .int .i64 (q.1 : Int))]) (fun q => [.row k76 76 0 (.slice (some ⟨gr, 0, none⟩) ([] : List S76).length 0) [], .row KI 3 0 (.slice q.2.2.1 (s.take q.1).length q.2.2.2) (s.take q.1), .box gc 26 [.int .i64 wd, .int .i64 ht, .slice A0 cs.length c0]]) (fun _ => [(fun W => KI.C W A8 s.length s), (fun W => Kd.C (Kd.int .i64) W A0 cs.length cs), (fun W => Kd.C k76 W A1 l.length l)]) (fun q => s.length - q.1) rfl (0, m0, some ⟨g0, 0, none⟩, 0) ⟨Nat.zero_le _, by simp, hin2⟩ ⟨rfl, rfl, rfl, rfl, rfl, rfl, rfl, trivial⟩ (by repeat (first | exact .nil | refine Pick.cons (by repeat (first | exact .z | apply OutAt.s)) ?_)) (fun p hp => hp) (fun q hq => ?_)
  obtain ⟨q, m, Ad, cd⟩ := q
  dsimp only at hq ⊢
  obtain ⟨hqs, hmq, hm0, hm1⟩ := hq
  by_cases hlt : q < s.length
  · obtain ⟨ad, rfl⟩ : ∃ ad, A1 = some ad := by
      obtain ⟨ad, e, _⟩ := hrH.2.2 (by omega)
      exact ⟨ad, e⟩
    obtain ⟨ad1, rfl⟩ : ∃ ad, A8 = some ad := hAn (by omega)
    obtain ⟨a, ha⟩ : ∃ a, s[q]? = some a := ⟨_, List.getElem?_eq_getElem hlt⟩
    obtain ⟨i, hi, rfl⟩ := hsm a (List.mem_of_getElem? ha)
    have hgd : s.getD ((q : Int)).toNat 0 = (i : Int) := by rw [Int.toNat_natCast, List.getD_eq_getElem?_getD, ha]; rfl
    obtain ⟨x, hx⟩ : ∃ x, nth l i z76 = x := ⟨_, rfl⟩
    have hxo : okH wd ht x = true := hx ▸ ho i hi
    have hfx : f (i : Int) = mm wd cs x := by rw [← hf]; show mm wd cs (nth l ((i : Int)).toNat z76) = _; rw [Int.toNat_natCast, hx]
    obtain ⟨mq1, mq2⟩ := mendQ hmq ha
    rw [hfx] at mq1 mq2
    obtain ⟨_, _, _, _, b1, b2⟩ := lostE hg' hxo
    have htk : s.take (q + 1) = s.take q ++ [s.getD (q : Int).toNat 0] := by rw [hgd, List.take_add_one, ha]; rfl
    have hux : ([.int .i64 (l.getD (s.getD (q : Int).toNat 0).toNat z76).f0, .int .i64 (l.getD (s.getD (q : Int).toNat 0).toNat z76).f1, .int .i64 (l.getD (s.getD (q : Int).toNat 0).toNat z76).f2, .int .i64 (l.getD (s.getD (q : Int).toNat 0).toNat z76).f3] : List Value) = [.int .i64 x.f0, .int .i64 x.f1, .int .i64 x.f2, .int .i64 x.f3] := by
      have hx2 : l.getD i z76 = x := hx
      rw [hgd, Int.toNat_natCast, hx2]
    by_cases hle : mm wd cs x ≤ m
    · repeat (first
    | (apply gateO; first
      | refine Jl.yd (Y.mv rfl rfl) rfl rfl rfl ?_
      | refine Jl.yd (Y.asg rfl rfl) rfl rfl rfl ?_
      | refine Jl.yd (Y.ext rfl rfl rfl) rfl rfl rfl ?_
      | refine Jl.yd (Y.pickT rfl rfl rfl) rfl rfl rfl ?_
      | refine Jl.yd (Y.pickF rfl rfl rfl) rfl rfl rfl ?_
      | refine Jl.off rfl rfl rfl ?_
      | refine Jl.yd (Y.cmpF rfl rfl rfl rfl (by omega)) rfl rfl rfl ?_
      | refine Jl.yd (Y.cmpT rfl rfl rfl rfl (by omega)) rfl rfl rfl ?_
      | refine Jl.yd (Y.neqB rfl rfl rfl Try.underlying4) rfl rfl rfl ?_
      | refine Jl.yd (Y.cmp rfl rfl rfl rfl) rfl rfl rfl ?_
      | refine Jl.yd (Y.not rfl rfl) rfl rfl rfl ?_
      | refine Jl.yd (Y.arithN rfl rfl rfl rfl (by omega)) rfl rfl rfl ?_
      | refine Jl.yd (Y.arith64 rfl rfl rfl rfl) rfl rfl rfl ?_
      | refine Jl.yd (Y.loadA rfl rfl agg26 (by repeat (first | exact .head _ | refine .tail _ ?_)) (by rfl)) rfl rfl rfl ?_
      | refine Jl.yd (Y.lenS Try.underlying65 rfl rfl rfl) rfl rfl rfl ?_
      | refine Jl.yd (Y.lenS Try.underlying24 rfl rfl rfl) rfl rfl rfl ?_
      | refine Jl.yd (Y.idx rfl rfl rfl el24 (by omega) (by omega)) rfl rfl rfl ?_
      | refine Jl.yd (Y.loadI (xs := s) (n := s.length) rfl rfl sc3 (by repeat (first | exact .head _ | refine .tail _ ?_)) (q : Int) (by omega) (by omega) rfl) rfl rfl rfl ?_
      | refine Jl.yd (Y.idx rfl rfl rfl el65 (by omega) (by omega)) rfl rfl rfl ?_
      | refine Jl.yd (Y.loadK z76 [.int .i64 x.f0, .int .i64 x.f1, .int .i64 x.f2, .int .i64 x.f3] rfl rfl agg76 (by repeat (first | exact .head _ | refine .tail _ ?_)) ((s.getD (q : Int).toNat 0)) (by omega) (by omega) (by rfl) (fun w cs h => (k76_open h).trans hux) (by rfl)) rfl rfl rfl ?_
      | refine Jl.call1 (v := .int .i64 (mm wd cs x)) rfl rfl rfl rfl en123 rfl (fun w hW => by with_reducible exact minS hg' hxo A0 c0 w (hW.fact (p := (fun W => Kd.C (Kd.int .i64) W A0 cs.length cs)) (by repeat (first | exact memH | refine memT ?_))) hc) ?_
      | refine Jl.lit1 rfl rfl rfl rfl rfl el24 zero3 rfl (fun g1 => ?_)
      | refine Jl.app (dk := KI) (xs := s.take q) (s.getD (q : Int).toNat 0) (fun _ => False) rfl rfl rfl rfl rfl rfl ap24 (by repeat (first | exact .head _ | refine .tail _ ?_)) rfl (fun w => rfl) (fun u hu => by rw [List.mem_singleton.1 hu]; rfl) (by repeat (first | exact .z | apply OutAt.s)) (by (try simp only [List.length_append, List.length_cons, List.length_nil, List.length_take, List.length_drop]); omega) (by (try simp only [List.length_append, List.length_cons, List.length_nil, List.length_take, List.length_drop]); omega) (fun A7 c7 h7 => ?_)
      | refine Jl.splitG rfl rfl (fun h => ?_) (fun h => ?_))
    | (apply gateE; first
      | refine Jl.nil (Ej.go ?_ (fun _ _ h => h))
      | (refine Jl.nil (Ej.back (fun _ _ h => h) (by repeat (first | exact .refl | apply DropTo.tail)) ?_); repeat (first | exact trivial | refine ⟨rfl, ?_⟩)))
    | (apply gateC; first
      | refine Cj.block rfl ?_
      | refine Cj.regionD rfl (mkD [0, 1, 2, 3, 4, 5, 6, 7, 8, 9, 10, 11, 12, 13, 15, 16] []) [] [0, 1, 2, 3, 4, 5, 6, 7, 8, 9, 10, 11, 12, 14, 13, 15, 16] mixed (by decide +kernel) ?_
      | refine Cj.regionD rfl (mkD [0, 1, 2, 3, 4, 5, 6, 7, 8, 10, 11] []) [] [0, 1, 2, 3, 4, 5, 6, 7, 8, 9, 10, 11] mixed (by decide +kernel) ?_
      | refine Cj.condF rfl rfl (Cj.skip rfl (Ej.go ?_ (fun _ _ h => h)))
      | (refine Cj.condF rfl rfl (Cj.skip rfl (Ej.back (fun _ _ h => h) (by repeat (first | exact .refl | apply DropTo.tail)) ?_)); repeat (first | exact trivial | refine ⟨rfl, ?_⟩))
      | refine Cj.condF rfl rfl ?_
      | refine Cj.condT rfl rfl ?_
      | refine Cj.exit rfl (Ej.go ?_ (fun _ _ h => h))
      | refine Cj.cond rfl rfl (fun h => ?_) (fun h => ?_)
      | refine Cj.skip rfl (Ej.go ?_ (fun _ _ h => h))
      | (refine Cj.skip rfl (Ej.back (fun _ _ h => h) (by repeat (first | exact .refl | apply DropTo.tail)) ?_); repeat (first | exact trivial | refine ⟨rfl, ?_⟩))
      | refine Cj.seq rfl ?_
      | refine Cj.region rfl ?_))
      refine Jl.nil (Ej.cutP (ι := Nat × Int × Option Addr × Nat) _ _ _ _ (fun _ _ h => h) (q + 1, m - mm wd cs x, A7, c7) ⟨⟨by (try dsimp only); omega, mq1 hle, by dsimp only; omega, by dsimp only; omega⟩, by dsimp only; omega⟩ ⟨rfl, rfl, rfl, rfl, by dsimp only; rw [htk]; rfl, rfl, rfl, trivial⟩ (by dsimp only; rw [htk]; exact (by repeat (first | exact .nil | refine Pick.cons (by repeat (first | exact .z | apply OutAt.s)) ?_))) (fun p hp => hp))
    · have hmd := mq2 hle
      have hleft := hleft q
      repeat (first
          | (apply gateO; first
            | refine Jl.yd (Y.mv rfl rfl) rfl rfl rfl ?_
            | refine Jl.yd (Y.asg rfl rfl) rfl rfl rfl ?_
            | refine Jl.yd (Y.ext rfl rfl rfl) rfl rfl rfl ?_
            | refine Jl.yd (Y.pickT rfl rfl rfl) rfl rfl rfl ?_
            | refine Jl.yd (Y.pickF rfl rfl rfl) rfl rfl rfl ?_
            | refine Jl.off rfl rfl rfl ?_
            | refine Jl.yd (Y.cmpF rfl rfl rfl rfl (by omega)) rfl rfl rfl ?_
            | refine Jl.yd (Y.cmpT rfl rfl rfl rfl (by omega)) rfl rfl rfl ?_
            | refine Jl.yd (Y.neqB rfl rfl rfl Try.underlying4) rfl rfl rfl ?_
            | refine Jl.yd (Y.cmp rfl rfl rfl rfl) rfl rfl rfl ?_
            | refine Jl.yd (Y.not rfl rfl) rfl rfl rfl ?_
            | refine Jl.yd (Y.arithN rfl rfl rfl rfl (by omega)) rfl rfl rfl ?_
            | refine Jl.yd (Y.arith64 rfl rfl rfl rfl) rfl rfl rfl ?_
            | refine Jl.yd (Y.loadA rfl rfl agg26 (by repeat (first | exact .head _ | refine .tail _ ?_)) (by rfl)) rfl rfl rfl ?_
            | refine Jl.yd (Y.lenS Try.underlying65 rfl rfl rfl) rfl rfl rfl ?_
            | refine Jl.yd (Y.lenS Try.underlying24 rfl rfl rfl) rfl rfl rfl ?_
            | refine Jl.yd (Y.idx rfl rfl rfl el24 (by omega) (by omega)) rfl rfl rfl ?_
            | refine Jl.yd (Y.loadI (xs := s) (n := s.length) rfl rfl sc3 (by repeat (first | exact .head _ | refine .tail _ ?_)) (q : Int) (by omega) (by omega) rfl) rfl rfl rfl ?_
            | refine Jl.yd (Y.idx rfl rfl rfl el65 (by omega) (by omega)) rfl rfl rfl ?_
            | refine Jl.yd (Y.loadK z76 [.int .i64 x.f0, .int .i64 x.f1, .int .i64 x.f2, .int .i64 x.f3] rfl rfl agg76 (by repeat (first | exact .head _ | refine .tail _ ?_)) ((s.getD (q : Int).toNat 0)) (by omega) (by omega) (by rfl) (fun w cs h => (k76_open h).trans hux) (by rfl)) rfl rfl rfl ?_
            | refine Jl.call1 (v := .int .i64 (mm wd cs x)) rfl rfl rfl rfl en123 rfl (fun w hW => by with_reducible exact minS hg' hxo A0 c0 w (hW.fact (p := (fun W => Kd.C (Kd.int .i64) W A0 cs.length cs)) (by repeat (first | exact memH | refine memT ?_))) hc) ?_
            | refine Jl.lit1 rfl rfl rfl rfl rfl el24 zero3 rfl (fun g1 => ?_)
            | refine Jl.app (dk := KI) (xs := s.take q) (s.getD (q : Int).toNat 0) (fun _ => False) rfl rfl rfl rfl rfl rfl ap24 (by repeat (first | exact .head _ | refine .tail _ ?_)) rfl (fun w => rfl) (fun u hu => by rw [List.mem_singleton.1 hu]; rfl) (by repeat (first | exact .z | apply OutAt.s)) (by (try simp only [List.length_append, List.length_cons, List.length_nil, List.length_take, List.length_drop]); omega) (by (try simp only [List.length_append, List.length_cons, List.length_nil, List.length_take, List.length_drop]); omega) (fun A7 c7 h7 => ?_)
            | refine Jl.splitG rfl rfl (fun h => ?_) (fun h => ?_))
          | (apply gateE; first
            | refine Jl.nil (Ej.go ?_ (fun _ _ h => h))
            | (refine Jl.nil (Ej.back (fun _ _ h => h) (by repeat (first | exact .refl | apply DropTo.tail)) ?_); repeat (first | exact trivial | refine ⟨rfl, ?_⟩)))
          | (apply gateC; first
            | refine Cj.block rfl ?_
            | refine Cj.regionD rfl (mkD [0, 1, 2, 3, 4, 5, 6, 7, 8, 9, 10, 11, 12, 13, 15, 16] []) [] [0, 1, 2, 3, 4, 5, 6, 7, 8, 9, 10, 11, 12, 14, 13, 15, 16] mixed (by decide +kernel) ?_
            | refine Cj.regionD rfl (mkD [0, 1, 2, 3, 4, 5, 6, 7, 8, 10, 11] []) [] [0, 1, 2, 3, 4, 5, 6, 7, 8, 9, 10, 11] mixed (by decide +kernel) ?_
            | refine Cj.condF rfl rfl (Cj.skip rfl (Ej.go ?_ (fun _ _ h => h)))
            | (refine Cj.condF rfl rfl (Cj.skip rfl (Ej.back (fun _ _ h => h) (by repeat (first | exact .refl | apply DropTo.tail)) ?_)); repeat (first | exact trivial | refine ⟨rfl, ?_⟩))
            | refine Cj.condF rfl rfl ?_
            | refine Cj.condT rfl rfl ?_
            | refine Cj.exit rfl (Ej.go ?_ (fun _ _ h => h))
            | refine Cj.cond rfl rfl (fun h => ?_) (fun h => ?_)
            | refine Cj.skip rfl (Ej.go ?_ (fun _ _ h => h))
            | (refine Cj.skip rfl (Ej.back (fun _ _ h => h) (by repeat (first | exact .refl | apply DropTo.tail)) ?_); repeat (first | exact trivial | refine ⟨rfl, ?_⟩))
            | refine Cj.seq rfl ?_
            | refine Cj.region rfl ?_))
      refine Cj.loopP (ι := Nat × Option Addr × Nat) (fun p => p.1 ≤ l.length) (fun p => [(1, .slice (some ad) l.length c1), (8, .slice p.2.1 ((((rng p.1).filter fun i => !decide (i ∈ s.take q)).map fun a => nth l a.toNat z76) : List S76).length p.2.2), (9, .slice Ad (s.take q).length cd), (12, .int .i64 (p.1 : Int))]) (fun p => [.row k76 76 0 (.slice p.2.1 ((((rng p.1).filter fun i => !decide (i ∈ s.take q)).map fun a => nth l a.toNat z76) : List S76).length p.2.2) (((rng p.1).filter fun i => !decide (i ∈ s.take q)).map fun a => nth l a.toNat z76), .row KI 3 0 (.slice Ad (s.take q).length cd) (s.take q)]) (fun _ => [(fun W => Kd.C k76 W (some ad) l.length l)]) (fun p => l.length - p.1) rfl (0, some ⟨gr, 0, none⟩, 0) (Nat.zero_le _) ⟨rfl, rfl, rfl, rfl, trivial⟩ (by repeat (first | exact .nil | refine Pick.cons (by repeat (first | exact .z | apply OutAt.s)) ?_)) (fun p hp => by rw [List.mem_singleton.1 hp]; exact (by repeat (first | exact memH | refine memT ?_))) (fun p hp => ?_)
      obtain ⟨j, Ar, cr⟩ := p
      dsimp only at hp ⊢
      have hacl : ((((rng j).filter fun i => !decide (i ∈ s.take q)).map fun a => nth l a.toNat z76)).length ≤ j := by
        rw [List.length_map]; exact Nat.le_trans (List.length_filter_le _ _) (by rw [rng_len]; exact Nat.le_refl _)
      by_cases hjt : j < l.length
      · try clear hux
        try clear hxo
        obtain ⟨x, hx⟩ : ∃ x, nth l j z76 = x := ⟨_, rfl⟩
        have hux : ([.int .i64 (l.getD ((j : Int)).toNat z76).f0, .int .i64 (l.getD ((j : Int)).toNat z76).f1, .int .i64 (l.getD ((j : Int)).toNat z76).f2, .int .i64 (l.getD ((j : Int)).toNat z76).f3] : List Value) = [.int .i64 x.f0, .int .i64 x.f1, .int .i64 x.f2, .int .i64 x.f3] := by
          have hx2 : l.getD j z76 = x := hx
          rw [Int.toNat_natCast, hx2]
        obtain ⟨kx, hx1⟩ := (hasInts (s.take q) (j : Int) (by rw [List.length_take]; omega)).rounds
        by_cases hmem : (j : Int) ∈ s.take q
        · rw [decide_eq_true hmem] at hx1
          have hacc : (((rng (j + 1)).filter fun i => !decide (i ∈ s.take q)).map fun a => nth l a.toNat z76) = (((rng j).filter fun i => !decide (i ∈ s.take q)).map fun a => nth l a.toNat z76) := by
            rw [rng_succ, List.filter_append, List.map_append, List.filter_cons, if_neg (by show ¬ ((!decide ((j : Int) ∈ s.take q)) = true); rw [decide_eq_true hmem]; decide), List.filter_nil, List.map_nil, List.append_nil]
          repeat (first
              | (apply gateO; first
                | refine Jl.yd (Y.mv rfl rfl) rfl rfl rfl ?_
                | refine Jl.yd (Y.asg rfl rfl) rfl rfl rfl ?_
                | refine Jl.yd (Y.ext rfl rfl rfl) rfl rfl rfl ?_
                | refine Jl.yd (Y.pickT rfl rfl rfl) rfl rfl rfl ?_
                | refine Jl.yd (Y.pickF rfl rfl rfl) rfl rfl rfl ?_
                | refine Jl.off rfl rfl rfl ?_
                | refine Jl.yd (Y.cmpF rfl rfl rfl rfl (by omega)) rfl rfl rfl ?_
                | refine Jl.yd (Y.cmpT rfl rfl rfl rfl (by omega)) rfl rfl rfl ?_
                | refine Jl.yd (Y.neqB rfl rfl rfl Try.underlying4) rfl rfl rfl ?_
                | refine Jl.yd (Y.cmp rfl rfl rfl rfl) rfl rfl rfl ?_
                | refine Jl.yd (Y.not rfl rfl) rfl rfl rfl ?_
                | refine Jl.yd (Y.arithN rfl rfl rfl rfl (by omega)) rfl rfl rfl ?_
                | refine Jl.yd (Y.arith64 rfl rfl rfl rfl) rfl rfl rfl ?_
                | refine Jl.yd (Y.loadA rfl rfl agg26 (by repeat (first | exact .head _ | refine .tail _ ?_)) (by rfl)) rfl rfl rfl ?_
                | refine Jl.yd (Y.lenS Try.underlying65 rfl rfl rfl) rfl rfl rfl ?_
                | refine Jl.yd (Y.lenS Try.underlying24 rfl rfl rfl) rfl rfl rfl ?_
                | refine Jl.call1 (v := .bool true) rfl rfl rfl rfl en95 rfl (fun w hW => by with_reducible first | exact spec_l1Has.calls kx _ _ (s.take q) (j : Int) true w (hW.rowC (by repeat (first | exact memH | refine memT ?_))) (hW.rowCap (by repeat (first | exact memH | refine memT ?_))).2 hx1 | exact Calls.mono (spec_l1Has.calls kx _ _ (s.take q) (j : Int) true w (hW.rowC (by repeat (first | exact memH | refine memT ?_))) (hW.rowCap (by repeat (first | exact memH | refine memT ?_))).2 hx1) (fun _ _ hh => ⟨hh.1, hh.2.below⟩)) ?_
                | refine Jl.yd (Y.idx rfl rfl rfl el65 (by omega) (by omega)) rfl rfl rfl ?_
                | refine Jl.yd (Y.loadK z76 [.int .i64 x.f0, .int .i64 x.f1, .int .i64 x.f2, .int .i64 x.f3] rfl rfl agg76 (by repeat (first | exact .head _ | refine .tail _ ?_)) ((j : Int)) (by omega) (by omega) (by rfl) (fun w cs h => (k76_open h).trans hux) (by rfl)) rfl rfl rfl ?_
                | refine Jl.litS (us := [.int .i64 x.f0, .int .i64 x.f1, .int .i64 x.f2, .int .i64 x.f3]) (zs := [.int .i64 0, .int .i64 0, .int .i64 0, .int .i64 0]) rfl rfl rfl rfl rfl el65 zero76 rfl rfl (fill4 _ _ _ _ _ _ _ _) (fun g9 => ?_)
                | refine Jl.app (dk := k76) (xs := (((rng j).filter fun i => !decide (i ∈ s.take q)).map fun a => nth l a.toNat z76)) x (fun _ => False) rfl rfl rfl rfl rfl rfl ap65 (by repeat (first | exact .head _ | refine .tail _ ?_)) rfl (fun w => k76_mkM w 0 (fun _ => False) x) (encO x) (by repeat (first | exact .z | apply OutAt.s)) (by (try simp only [List.length_append, List.length_cons, List.length_nil, List.length_take, List.length_drop]); omega) (by (try simp only [List.length_append, List.length_cons, List.length_nil, List.length_take, List.length_drop]); omega) (fun A9 c9 h9 => ?_)
                | refine Jl.splitG rfl rfl (fun h => ?_) (fun h => ?_))
              | (apply gateE; first
                | refine Jl.nil (Ej.go ?_ (fun _ _ h => h))
                | (refine Jl.nil (Ej.back (fun _ _ h => h) (by repeat (first | exact .refl | apply DropTo.tail)) ?_); repeat (first | exact trivial | refine ⟨rfl, ?_⟩)))
              | (apply gateC; first
                | refine Cj.block rfl ?_
                | refine Cj.condF rfl rfl (Cj.skip rfl (Ej.go ?_ (fun _ _ h => h)))
                | (refine Cj.condF rfl rfl (Cj.skip rfl (Ej.back (fun _ _ h => h) (by repeat (first | exact .refl | apply DropTo.tail)) ?_)); repeat (first | exact trivial | refine ⟨rfl, ?_⟩))
                | refine Cj.condF rfl rfl ?_
                | refine Cj.condT rfl rfl ?_
                | refine Cj.exit rfl (Ej.go ?_ (fun _ _ h => h))
                | refine Cj.cond rfl rfl (fun h => ?_) (fun h => ?_)
                | refine Cj.skip rfl (Ej.go ?_ (fun _ _ h => h))
                | (refine Cj.skip rfl (Ej.back (fun _ _ h => h) (by repeat (first | exact .refl | apply DropTo.tail)) ?_); repeat (first | exact trivial | refine ⟨rfl, ?_⟩))
                | refine Cj.seq rfl ?_
                | refine Cj.region rfl ?_))
          refine Jl.nil (Ej.cutP (ι := Nat × Option Addr × Nat) _ _ _ _ (fun _ _ h => h) (j + 1, Ar, cr) ⟨by dsimp only; omega, by dsimp only; omega⟩ ⟨rfl, by dsimp only; rw [hacc]; rfl, rfl, rfl, trivial⟩ (by dsimp only; rw [hacc]; exact (by repeat (first | exact .nil | refine Pick.cons (by repeat (first | exact .z | apply OutAt.s)) ?_))) (fun p hp => hp))
        · rw [decide_eq_false hmem] at hx1
          have hacc : (((rng (j + 1)).filter fun i => !decide (i ∈ s.take q)).map fun a => nth l a.toNat z76) = (((rng j).filter fun i => !decide (i ∈ s.take q)).map fun a => nth l a.toNat z76) ++ [x] := by
            rw [rng_succ, List.filter_append, List.map_append, List.filter_cons, if_pos (by show (!decide ((j : Int) ∈ s.take q)) = true; rw [decide_eq_false hmem]; rfl), List.filter_nil, List.map_cons, List.map_nil]
            show _ ++ [nth l ((j : Int)).toNat z76] = _
            rw [Int.toNat_natCast, hx]
          repeat (first
              | (apply gateO; first
                | refine Jl.yd (Y.mv rfl rfl) rfl rfl rfl ?_
                | refine Jl.yd (Y.asg rfl rfl) rfl rfl rfl ?_
                | refine Jl.yd (Y.ext rfl rfl rfl) rfl rfl rfl ?_
                | refine Jl.yd (Y.pickT rfl rfl rfl) rfl rfl rfl ?_
                | refine Jl.yd (Y.pickF rfl rfl rfl) rfl rfl rfl ?_
                | refine Jl.off rfl rfl rfl ?_
                | refine Jl.yd (Y.cmpF rfl rfl rfl rfl (by omega)) rfl rfl rfl ?_
                | refine Jl.yd (Y.cmpT rfl rfl rfl rfl (by omega)) rfl rfl rfl ?_
                | refine Jl.yd (Y.neqB rfl rfl rfl Try.underlying4) rfl rfl rfl ?_
                | refine Jl.yd (Y.cmp rfl rfl rfl rfl) rfl rfl rfl ?_
                | refine Jl.yd (Y.not rfl rfl) rfl rfl rfl ?_
                | refine Jl.yd (Y.arithN rfl rfl rfl rfl (by omega)) rfl rfl rfl ?_
                | refine Jl.yd (Y.arith64 rfl rfl rfl rfl) rfl rfl rfl ?_
                | refine Jl.yd (Y.loadA rfl rfl agg26 (by repeat (first | exact .head _ | refine .tail _ ?_)) (by rfl)) rfl rfl rfl ?_
                | refine Jl.yd (Y.lenS Try.underlying65 rfl rfl rfl) rfl rfl rfl ?_
                | refine Jl.yd (Y.lenS Try.underlying24 rfl rfl rfl) rfl rfl rfl ?_
                | refine Jl.call1 (v := .bool false) rfl rfl rfl rfl en95 rfl (fun w hW => by with_reducible first | exact spec_l1Has.calls kx _ _ (s.take q) (j : Int) false w (hW.rowC (by repeat (first | exact memH | refine memT ?_))) (hW.rowCap (by repeat (first | exact memH | refine memT ?_))).2 hx1 | exact Calls.mono (spec_l1Has.calls kx _ _ (s.take q) (j : Int) false w (hW.rowC (by repeat (first | exact memH | refine memT ?_))) (hW.rowCap (by repeat (first | exact memH | refine memT ?_))).2 hx1) (fun _ _ hh => ⟨hh.1, hh.2.below⟩)) ?_
                | refine Jl.yd (Y.idx rfl rfl rfl el65 (by omega) (by omega)) rfl rfl rfl ?_
                | refine Jl.yd (Y.loadK z76 [.int .i64 x.f0, .int .i64 x.f1, .int .i64 x.f2, .int .i64 x.f3] rfl rfl agg76 (by repeat (first | exact .head _ | refine .tail _ ?_)) ((j : Int)) (by omega) (by omega) (by rfl) (fun w cs h => (k76_open h).trans hux) (by rfl)) rfl rfl rfl ?_
                | refine Jl.litS (us := [.int .i64 x.f0, .int .i64 x.f1, .int .i64 x.f2, .int .i64 x.f3]) (zs := [.int .i64 0, .int .i64 0, .int .i64 0, .int .i64 0]) rfl rfl rfl rfl rfl el65 zero76 rfl rfl (fill4 _ _ _ _ _ _ _ _) (fun g9 => ?_)
                | refine Jl.app (dk := k76) (xs := (((rng j).filter fun i => !decide (i ∈ s.take q)).map fun a => nth l a.toNat z76)) x (fun _ => False) rfl rfl rfl rfl rfl rfl ap65 (by repeat (first | exact .head _ | refine .tail _ ?_)) rfl (fun w => k76_mkM w 0 (fun _ => False) x) (encO x) (by repeat (first | exact .z | apply OutAt.s)) (by (try simp only [List.length_append, List.length_cons, List.length_nil, List.length_take, List.length_drop]); omega) (by (try simp only [List.length_append, List.length_cons, List.length_nil, List.length_take, List.length_drop]); omega) (fun A9 c9 h9 => ?_)
                | refine Jl.splitG rfl rfl (fun h => ?_) (fun h => ?_))
              | (apply gateE; first
                | refine Jl.nil (Ej.go ?_ (fun _ _ h => h))
                | (refine Jl.nil (Ej.back (fun _ _ h => h) (by repeat (first | exact .refl | apply DropTo.tail)) ?_); repeat (first | exact trivial | refine ⟨rfl, ?_⟩)))
              | (apply gateC; first
                | refine Cj.block rfl ?_
                | refine Cj.condF rfl rfl (Cj.skip rfl (Ej.go ?_ (fun _ _ h => h)))
                | (refine Cj.condF rfl rfl (Cj.skip rfl (Ej.back (fun _ _ h => h) (by repeat (first | exact .refl | apply DropTo.tail)) ?_)); repeat (first | exact trivial | refine ⟨rfl, ?_⟩))
                | refine Cj.condF rfl rfl ?_
                | refine Cj.condT rfl rfl ?_
                | refine Cj.exit rfl (Ej.go ?_ (fun _ _ h => h))
                | refine Cj.cond rfl rfl (fun h => ?_) (fun h => ?_)
                | refine Cj.skip rfl (Ej.go ?_ (fun _ _ h => h))
                | (refine Cj.skip rfl (Ej.back (fun _ _ h => h) (by repeat (first | exact .refl | apply DropTo.tail)) ?_); repeat (first | exact trivial | refine ⟨rfl, ?_⟩))
                | refine Cj.seq rfl ?_
                | refine Cj.region rfl ?_))
          refine Jl.nil (Ej.cutP (ι := Nat × Option Addr × Nat) _ _ _ _ (fun _ _ h => h) (j + 1, A9, c9) ⟨by dsimp only; omega, by dsimp only; omega⟩ ⟨rfl, by dsimp only; rw [hacc]; rfl, rfl, rfl, trivial⟩ (by dsimp only; rw [hacc]; exact (by repeat (first | exact .nil | refine Pick.cons (by repeat (first | exact .z | apply OutAt.s)) ?_))) (fun p hp => hp))
      · obtain rfl : j = l.length := by omega
        repeat (first
            | (apply gateO; first
              | refine Jl.yd (Y.mv rfl rfl) rfl rfl rfl ?_
              | refine Jl.yd (Y.asg rfl rfl) rfl rfl rfl ?_
              | refine Jl.yd (Y.ext rfl rfl rfl) rfl rfl rfl ?_
              | refine Jl.yd (Y.pickT rfl rfl rfl) rfl rfl rfl ?_
              | refine Jl.yd (Y.pickF rfl rfl rfl) rfl rfl rfl ?_
              | refine Jl.off rfl rfl rfl ?_
              | refine Jl.yd (Y.cmpF rfl rfl rfl rfl (by omega)) rfl rfl rfl ?_
              | refine Jl.yd (Y.cmpT rfl rfl rfl rfl (by omega)) rfl rfl rfl ?_
              | refine Jl.yd (Y.neqB rfl rfl rfl Try.underlying4) rfl rfl rfl ?_
              | refine Jl.yd (Y.cmp rfl rfl rfl rfl) rfl rfl rfl ?_
              | refine Jl.yd (Y.not rfl rfl) rfl rfl rfl ?_
              | refine Jl.yd (Y.arithN rfl rfl rfl rfl (by omega)) rfl rfl rfl ?_
              | refine Jl.yd (Y.arith64 rfl rfl rfl rfl) rfl rfl rfl ?_
              | refine Jl.yd (Y.loadA rfl rfl agg26 (by repeat (first | exact .head _ | refine .tail _ ?_)) (by rfl)) rfl rfl rfl ?_
              | refine Jl.yd (Y.lenS Try.underlying65 rfl rfl rfl) rfl rfl rfl ?_
              | refine Jl.yd (Y.lenS Try.underlying24 rfl rfl rfl) rfl rfl rfl ?_
              | refine Jl.splitG rfl rfl (fun h => ?_) (fun h => ?_))
            | (apply gateE; first
              | refine Jl.nil (Ej.go ?_ (fun _ _ h => h))
              | (refine Jl.nil (Ej.back (fun _ _ h => h) (by repeat (first | exact .refl | apply DropTo.tail)) ?_); repeat (first | exact trivial | refine ⟨rfl, ?_⟩)))
            | (apply gateC; first
              | refine Cj.block rfl ?_
              | refine Cj.ret rfl (Ej.out2 (P := Try.prog) (fn := Try.f55) (R := Rr) (fun _ _ h => h) rfl rfl rfl (fun w' hW => ⟨_, rfl, by rw [hmd, hleft]; exact outH hW (by repeat (first | exact .nil | refine Pick.cons (by repeat (first | exact .z | apply OutAt.s)) ?_)), hW.below⟩))
              | refine Cj.condF rfl rfl (Cj.skip rfl (Ej.go ?_ (fun _ _ h => h)))
              | (refine Cj.condF rfl rfl (Cj.skip rfl (Ej.back (fun _ _ h => h) (by repeat (first | exact .refl | apply DropTo.tail)) ?_)); repeat (first | exact trivial | refine ⟨rfl, ?_⟩))
              | refine Cj.condF rfl rfl ?_
              | refine Cj.condT rfl rfl ?_
              | refine Cj.exit rfl (Ej.go ?_ (fun _ _ h => h))
              | refine Cj.cond rfl rfl (fun h => ?_) (fun h => ?_)
              | refine Cj.skip rfl (Ej.go ?_ (fun _ _ h => h))
              | (refine Cj.skip rfl (Ej.back (fun _ _ h => h) (by repeat (first | exact .refl | apply DropTo.tail)) ?_); repeat (first | exact trivial | refine ⟨rfl, ?_⟩))
              | refine Cj.seq rfl ?_
              | refine Cj.region rfl ?_))
  · obtain rfl : q = s.length := by omega
    have hmd : mend f m0 s = s.length := by rw [hmq, List.drop_length]; rfl
    have hleft := hleft s.length
    repeat (first
        | (apply gateO; first
          | refine Jl.yd (Y.mv rfl rfl) rfl rfl rfl ?_
          | refine Jl.yd (Y.asg rfl rfl) rfl rfl rfl ?_
          | refine Jl.yd (Y.ext rfl rfl rfl) rfl rfl rfl ?_
          | refine Jl.yd (Y.pickT rfl rfl rfl) rfl rfl rfl ?_
          | refine Jl.yd (Y.pickF rfl rfl rfl) rfl rfl rfl ?_
          | refine Jl.off rfl rfl rfl ?_
          | refine Jl.yd (Y.cmpF rfl rfl rfl rfl (by omega)) rfl rfl rfl ?_
          | refine Jl.yd (Y.cmpT rfl rfl rfl rfl (by omega)) rfl rfl rfl ?_
          | refine Jl.yd (Y.neqB rfl rfl rfl Try.underlying4) rfl rfl rfl ?_
          | refine Jl.yd (Y.cmp rfl rfl rfl rfl) rfl rfl rfl ?_
          | refine Jl.yd (Y.not rfl rfl) rfl rfl rfl ?_
          | refine Jl.yd (Y.arithN rfl rfl rfl rfl (by omega)) rfl rfl rfl ?_
          | refine Jl.yd (Y.arith64 rfl rfl rfl rfl) rfl rfl rfl ?_
          | refine Jl.yd (Y.loadA rfl rfl agg26 (by repeat (first | exact .head _ | refine .tail _ ?_)) (by rfl)) rfl rfl rfl ?_
          | refine Jl.yd (Y.lenS Try.underlying65 rfl rfl rfl) rfl rfl rfl ?_
          | refine Jl.yd (Y.lenS Try.underlying24 rfl rfl rfl) rfl rfl rfl ?_
          | refine Jl.yd (Y.idx rfl rfl rfl el24 (by omega) (by omega)) rfl rfl rfl ?_
          | refine Jl.yd (Y.loadI (xs := s) (n := s.length) rfl rfl sc3 (by repeat (first | exact .head _ | refine .tail _ ?_)) ((s.length : Nat) : Int) (by omega) (by omega) rfl) rfl rfl rfl ?_
          | refine Jl.yd (Y.idx rfl rfl rfl el65 (by omega) (by omega)) rfl rfl rfl ?_
          | refine Jl.yd (Y.loadK z76 [.int .i64 x.f0, .int .i64 x.f1, .int .i64 x.f2, .int .i64 x.f3] rfl rfl agg76 (by repeat (first | exact .head _ | refine .tail _ ?_)) ((s.getD ((s.length : Nat) : Int).toNat 0)) (by omega) (by omega) (by rfl) (fun w cs h => (k76_open h).trans hux) (by rfl)) rfl rfl rfl ?_
          | refine Jl.call1 (v := .int .i64 (mm wd cs x)) rfl rfl rfl rfl en123 rfl (fun w hW => by with_reducible exact minS hg' hxo A0 c0 w (hW.fact (p := (fun W => Kd.C (Kd.int .i64) W A0 cs.length cs)) (by repeat (first | exact memH | refine memT ?_))) hc) ?_
          | refine Jl.lit1 rfl rfl rfl rfl rfl el24 zero3 rfl (fun g1 => ?_)
          | refine Jl.app (dk := KI) (xs := s.take s.length) (s.getD ((s.length : Nat) : Int).toNat 0) (fun _ => False) rfl rfl rfl rfl rfl rfl ap24 (by repeat (first | exact .head _ | refine .tail _ ?_)) rfl (fun w => rfl) (fun u hu => by rw [List.mem_singleton.1 hu]; rfl) (by repeat (first | exact .z | apply OutAt.s)) (by (try simp only [List.length_append, List.length_cons, List.length_nil, List.length_take, List.length_drop]); omega) (by (try simp only [List.length_append, List.length_cons, List.length_nil, List.length_take, List.length_drop]); omega) (fun A7 c7 h7 => ?_)
          | refine Jl.splitG rfl rfl (fun h => ?_) (fun h => ?_))
        | (apply gateE; first
          | refine Jl.nil (Ej.go ?_ (fun _ _ h => h))
          | (refine Jl.nil (Ej.back (fun _ _ h => h) (by repeat (first | exact .refl | apply DropTo.tail)) ?_); repeat (first | exact trivial | refine ⟨rfl, ?_⟩)))
        | (apply gateC; first
          | refine Cj.block rfl ?_
          | refine Cj.regionD rfl (mkD [0, 1, 2, 3, 4, 5, 6, 7, 8, 9, 10, 11, 12, 13, 15, 16] []) [] [0, 1, 2, 3, 4, 5, 6, 7, 8, 9, 10, 11, 12, 14, 13, 15, 16] mixed (by decide +kernel) ?_
          | refine Cj.regionD rfl (mkD [0, 1, 2, 3, 4, 5, 6, 7, 8, 10, 11] []) [] [0, 1, 2, 3, 4, 5, 6, 7, 8, 9, 10, 11] mixed (by decide +kernel) ?_
          | refine Cj.condF rfl rfl (Cj.skip rfl (Ej.go ?_ (fun _ _ h => h)))
          | (refine Cj.condF rfl rfl (Cj.skip rfl (Ej.back (fun _ _ h => h) (by repeat (first | exact .refl | apply DropTo.tail)) ?_)); repeat (first | exact trivial | refine ⟨rfl, ?_⟩))
          | refine Cj.condF rfl rfl ?_
          | refine Cj.condT rfl rfl ?_
          | refine Cj.exit rfl (Ej.go ?_ (fun _ _ h => h))
          | refine Cj.cond rfl rfl (fun h => ?_) (fun h => ?_)
          | refine Cj.skip rfl (Ej.go ?_ (fun _ _ h => h))
          | (refine Cj.skip rfl (Ej.back (fun _ _ h => h) (by repeat (first | exact .refl | apply DropTo.tail)) ?_); repeat (first | exact trivial | refine ⟨rfl, ?_⟩))
          | refine Cj.seq rfl ?_
          | refine Cj.region rfl ?_))
    refine Cj.loopP (ι := Nat × Option Addr × Nat) (fun p => p.1 ≤ l.length) (fun p => [(1, .slice A1 l.length c1), (8, .slice p.2.1 ((((rng p.1).filter fun i => !decide (i ∈ s.take s.length)).map fun a => nth l a.toNat z76) : List S76).length p.2.2), (9, .slice Ad (s.take s.length).length cd), (12, .int .i64 (p.1 : Int))]) (fun p => [.row k76 76 0 (.slice p.2.1 ((((rng p.1).filter fun i => !decide (i ∈ s.take s.length)).map fun a => nth l a.toNat z76) : List S76).length p.2.2) (((rng p.1).filter fun i => !decide (i ∈ s.take s.length)).map fun a => nth l a.toNat z76), .row KI 3 0 (.slice Ad (s.take s.length).length cd) (s.take s.length)]) (fun _ => [(fun W => Kd.C k76 W A1 l.length l)]) (fun p => l.length - p.1) rfl (0, some ⟨gr, 0, none⟩, 0) (Nat.zero_le _) ⟨rfl, rfl, rfl, rfl, trivial⟩ (by repeat (first | exact .nil | refine Pick.cons (by repeat (first | exact .z | apply OutAt.s)) ?_)) (fun p hp => by rw [List.mem_singleton.1 hp]; exact (by repeat (first | exact memH | refine memT ?_))) (fun p hp => ?_)
    obtain ⟨j, Ar, cr⟩ := p
    dsimp only at hp ⊢
    have hacl : ((((rng j).filter fun i => !decide (i ∈ s.take s.length)).map fun a => nth l a.toNat z76)).length ≤ j := by
      rw [List.length_map]; exact Nat.le_trans (List.length_filter_le _ _) (by rw [rng_len]; exact Nat.le_refl _)
    by_cases hjt : j < l.length
    · obtain ⟨ad, rfl⟩ : ∃ ad, A1 = some ad := by
        obtain ⟨ad, e, _⟩ := hrH.2.2 (by omega)
        exact ⟨ad, e⟩
      try clear hux
      try clear hxo
      obtain ⟨x, hx⟩ : ∃ x, nth l j z76 = x := ⟨_, rfl⟩
      have hux : ([.int .i64 (l.getD ((j : Int)).toNat z76).f0, .int .i64 (l.getD ((j : Int)).toNat z76).f1, .int .i64 (l.getD ((j : Int)).toNat z76).f2, .int .i64 (l.getD ((j : Int)).toNat z76).f3] : List Value) = [.int .i64 x.f0, .int .i64 x.f1, .int .i64 x.f2, .int .i64 x.f3] := by
        have hx2 : l.getD j z76 = x := hx
        rw [Int.toNat_natCast, hx2]
      obtain ⟨kx, hx1⟩ := (hasInts (s.take s.length) (j : Int) (by rw [List.length_take]; omega)).rounds
      by_cases hmem : (j : Int) ∈ s.take s.length
      · rw [decide_eq_true hmem] at hx1
        have hacc : (((rng (j + 1)).filter fun i => !decide (i ∈ s.take s.length)).map fun a => nth l a.toNat z76) = (((rng j).filter fun i => !decide (i ∈ s.take s.length)).map fun a => nth l a.toNat z76) := by
          rw [rng_succ, List.filter_append, List.map_append, List.filter_cons, if_neg (by show ¬ ((!decide ((j : Int) ∈ s.take s.length)) = true); rw [decide_eq_true hmem]; decide), List.filter_nil, List.map_nil, List.append_nil]
        repeat (first
            | (apply gateO; first
              | refine Jl.yd (Y.mv rfl rfl) rfl rfl rfl ?_
              | refine Jl.yd (Y.asg rfl rfl) rfl rfl rfl ?_
              | refine Jl.yd (Y.ext rfl rfl rfl) rfl rfl rfl ?_
              | refine Jl.yd (Y.pickT rfl rfl rfl) rfl rfl rfl ?_
              | refine Jl.yd (Y.pickF rfl rfl rfl) rfl rfl rfl ?_
              | refine Jl.off rfl rfl rfl ?_
              | refine Jl.yd (Y.cmpF rfl rfl rfl rfl (by omega)) rfl rfl rfl ?_
              | refine Jl.yd (Y.cmpT rfl rfl rfl rfl (by omega)) rfl rfl rfl ?_
              | refine Jl.yd (Y.neqB rfl rfl rfl Try.underlying4) rfl rfl rfl ?_
              | refine Jl.yd (Y.cmp rfl rfl rfl rfl) rfl rfl rfl ?_
              | refine Jl.yd (Y.not rfl rfl) rfl rfl rfl ?_
              | refine Jl.yd (Y.arithN rfl rfl rfl rfl (by omega)) rfl rfl rfl ?_
              | refine Jl.yd (Y.arith64 rfl rfl rfl rfl) rfl rfl rfl ?_
              | refine Jl.yd (Y.loadA rfl rfl agg26 (by repeat (first | exact .head _ | refine .tail _ ?_)) (by rfl)) rfl rfl rfl ?_
              | refine Jl.yd (Y.lenS Try.underlying65 rfl rfl rfl) rfl rfl rfl ?_
              | refine Jl.yd (Y.lenS Try.underlying24 rfl rfl rfl) rfl rfl rfl ?_
              | refine Jl.call1 (v := .bool true) rfl rfl rfl rfl en95 rfl (fun w hW => by with_reducible first | exact spec_l1Has.calls kx _ _ (s.take s.length) (j : Int) true w (hW.rowC (by repeat (first | exact memH | refine memT ?_))) (hW.rowCap (by repeat (first | exact memH | refine memT ?_))).2 hx1 | exact Calls.mono (spec_l1Has.calls kx _ _ (s.take s.length) (j : Int) true w (hW.rowC (by repeat (first | exact memH | refine memT ?_))) (hW.rowCap (by repeat (first | exact memH | refine memT ?_))).2 hx1) (fun _ _ hh => ⟨hh.1, hh.2.below⟩)) ?_
              | refine Jl.yd (Y.idx rfl rfl rfl el65 (by omega) (by omega)) rfl rfl rfl ?_
              | refine Jl.yd (Y.loadK z76 [.int .i64 x.f0, .int .i64 x.f1, .int .i64 x.f2, .int .i64 x.f3] rfl rfl agg76 (by repeat (first | exact .head _ | refine .tail _ ?_)) ((j : Int)) (by omega) (by omega) (by rfl) (fun w cs h => (k76_open h).trans hux) (by rfl)) rfl rfl rfl ?_
              | refine Jl.litS (us := [.int .i64 x.f0, .int .i64 x.f1, .int .i64 x.f2, .int .i64 x.f3]) (zs := [.int .i64 0, .int .i64 0, .int .i64 0, .int .i64 0]) rfl rfl rfl rfl rfl el65 zero76 rfl rfl (fill4 _ _ _ _ _ _ _ _) (fun g9 => ?_)
              | refine Jl.app (dk := k76) (xs := (((rng j).filter fun i => !decide (i ∈ s.take s.length)).map fun a => nth l a.toNat z76)) x (fun _ => False) rfl rfl rfl rfl rfl rfl ap65 (by repeat (first | exact .head _ | refine .tail _ ?_)) rfl (fun w => k76_mkM w 0 (fun _ => False) x) (encO x) (by repeat (first | exact .z | apply OutAt.s)) (by (try simp only [List.length_append, List.length_cons, List.length_nil, List.length_take, List.length_drop]); omega) (by (try simp only [List.length_append, List.length_cons, List.length_nil, List.length_take, List.length_drop]); omega) (fun A9 c9 h9 => ?_)
              | refine Jl.splitG rfl rfl (fun h => ?_) (fun h => ?_))
            | (apply gateE; first
              | refine Jl.nil (Ej.go ?_ (fun _ _ h => h))
              | (refine Jl.nil (Ej.back (fun _ _ h => h) (by repeat (first | exact .refl | apply DropTo.tail)) ?_); repeat (first | exact trivial | refine ⟨rfl, ?_⟩)))
            | (apply gateC; first
              | refine Cj.block rfl ?_
              | refine Cj.condF rfl rfl (Cj.skip rfl (Ej.go ?_ (fun _ _ h => h)))
              | (refine Cj.condF rfl rfl (Cj.skip rfl (Ej.back (fun _ _ h => h) (by repeat (first | exact .refl | apply DropTo.tail)) ?_)); repeat (first | exact trivial | refine ⟨rfl, ?_⟩))
              | refine Cj.condF rfl rfl ?_
              | refine Cj.condT rfl rfl ?_
              | refine Cj.exit rfl (Ej.go ?_ (fun _ _ h => h))
              | refine Cj.cond rfl rfl (fun h => ?_) (fun h => ?_)
              | refine Cj.skip rfl (Ej.go ?_ (fun _ _ h => h))
              | (refine Cj.skip rfl (Ej.back (fun _ _ h => h) (by repeat (first | exact .refl | apply DropTo.tail)) ?_); repeat (first | exact trivial | refine ⟨rfl, ?_⟩))
              | refine Cj.seq rfl ?_
              | refine Cj.region rfl ?_))
        refine Jl.nil (Ej.cutP (ι := Nat × Option Addr × Nat) _ _ _ _ (fun _ _ h => h) (j + 1, Ar, cr) ⟨by dsimp only; omega, by dsimp only; omega⟩ ⟨rfl, by dsimp only; rw [hacc]; rfl, rfl, rfl, trivial⟩ (by dsimp only; rw [hacc]; exact (by repeat (first | exact .nil | refine Pick.cons (by repeat (first | exact .z | apply OutAt.s)) ?_))) (fun p hp => hp))
      · rw [decide_eq_false hmem] at hx1
        have hacc : (((rng (j + 1)).filter fun i => !decide (i ∈ s.take s.length)).map fun a => nth l a.toNat z76) = (((rng j).filter fun i => !decide (i ∈ s.take s.length)).map fun a => nth l a.toNat z76) ++ [x] := by
          rw [rng_succ, List.filter_append, List.map_append, List.filter_cons, if_pos (by show (!decide ((j : Int) ∈ s.take s.length)) = true; rw [decide_eq_false hmem]; rfl), List.filter_nil, List.map_cons, List.map_nil]
          show _ ++ [nth l ((j : Int)).toNat z76] = _
          rw [Int.toNat_natCast, hx]
        repeat (first
            | (apply gateO; first
              | refine Jl.yd (Y.mv rfl rfl) rfl rfl rfl ?_
              | refine Jl.yd (Y.asg rfl rfl) rfl rfl rfl ?_
              | refine Jl.yd (Y.ext rfl rfl rfl) rfl rfl rfl ?_
              | refine Jl.yd (Y.pickT rfl rfl rfl) rfl rfl rfl ?_
              | refine Jl.yd (Y.pickF rfl rfl rfl) rfl rfl rfl ?_
              | refine Jl.off rfl rfl rfl ?_
              | refine Jl.yd (Y.cmpF rfl rfl rfl rfl (by omega)) rfl rfl rfl ?_
              | refine Jl.yd (Y.cmpT rfl rfl rfl rfl (by omega)) rfl rfl rfl ?_
              | refine Jl.yd (Y.neqB rfl rfl rfl Try.underlying4) rfl rfl rfl ?_
              | refine Jl.yd (Y.cmp rfl rfl rfl rfl) rfl rfl rfl ?_
              | refine Jl.yd (Y.not rfl rfl) rfl rfl rfl ?_
              | refine Jl.yd (Y.arithN rfl rfl rfl rfl (by omega)) rfl rfl rfl ?_
              | refine Jl.yd (Y.arith64 rfl rfl rfl rfl) rfl rfl rfl ?_
              | refine Jl.yd (Y.loadA rfl rfl agg26 (by repeat (first | exact .head _ | refine .tail _ ?_)) (by rfl)) rfl rfl rfl ?_
              | refine Jl.yd (Y.lenS Try.underlying65 rfl rfl rfl) rfl rfl rfl ?_
              | refine Jl.yd (Y.lenS Try.underlying24 rfl rfl rfl) rfl rfl rfl ?_
              | refine Jl.call1 (v := .bool false) rfl rfl rfl rfl en95 rfl (fun w hW => by with_reducible first | exact spec_l1Has.calls kx _ _ (s.take s.length) (j : Int) false w (hW.rowC (by repeat (first | exact memH | refine memT ?_))) (hW.rowCap (by repeat (first | exact memH | refine memT ?_))).2 hx1 | exact Calls.mono (spec_l1Has.calls kx _ _ (s.take s.length) (j : Int) false w (hW.rowC (by repeat (first | exact memH | refine memT ?_))) (hW.rowCap (by repeat (first | exact memH | refine memT ?_))).2 hx1) (fun _ _ hh => ⟨hh.1, hh.2.below⟩)) ?_
              | refine Jl.yd (Y.idx rfl rfl rfl el65 (by omega) (by omega)) rfl rfl rfl ?_
              | refine Jl.yd (Y.loadK z76 [.int .i64 x.f0, .int .i64 x.f1, .int .i64 x.f2, .int .i64 x.f3] rfl rfl agg76 (by repeat (first | exact .head _ | refine .tail _ ?_)) ((j : Int)) (by omega) (by omega) (by rfl) (fun w cs h => (k76_open h).trans hux) (by rfl)) rfl rfl rfl ?_
              | refine Jl.litS (us := [.int .i64 x.f0, .int .i64 x.f1, .int .i64 x.f2, .int .i64 x.f3]) (zs := [.int .i64 0, .int .i64 0, .int .i64 0, .int .i64 0]) rfl rfl rfl rfl rfl el65 zero76 rfl rfl (fill4 _ _ _ _ _ _ _ _) (fun g9 => ?_)
              | refine Jl.app (dk := k76) (xs := (((rng j).filter fun i => !decide (i ∈ s.take s.length)).map fun a => nth l a.toNat z76)) x (fun _ => False) rfl rfl rfl rfl rfl rfl ap65 (by repeat (first | exact .head _ | refine .tail _ ?_)) rfl (fun w => k76_mkM w 0 (fun _ => False) x) (encO x) (by repeat (first | exact .z | apply OutAt.s)) (by (try simp only [List.length_append, List.length_cons, List.length_nil, List.length_take, List.length_drop]); omega) (by (try simp only [List.length_append, List.length_cons, List.length_nil, List.length_take, List.length_drop]); omega) (fun A9 c9 h9 => ?_)
              | refine Jl.splitG rfl rfl (fun h => ?_) (fun h => ?_))
            | (apply gateE; first
              | refine Jl.nil (Ej.go ?_ (fun _ _ h => h))
              | (refine Jl.nil (Ej.back (fun _ _ h => h) (by repeat (first | exact .refl | apply DropTo.tail)) ?_); repeat (first | exact trivial | refine ⟨rfl, ?_⟩)))
            | (apply gateC; first
              | refine Cj.block rfl ?_
              | refine Cj.condF rfl rfl (Cj.skip rfl (Ej.go ?_ (fun _ _ h => h)))
              | (refine Cj.condF rfl rfl (Cj.skip rfl (Ej.back (fun _ _ h => h) (by repeat (first | exact .refl | apply DropTo.tail)) ?_)); repeat (first | exact trivial | refine ⟨rfl, ?_⟩))
              | refine Cj.condF rfl rfl ?_
              | refine Cj.condT rfl rfl ?_
              | refine Cj.exit rfl (Ej.go ?_ (fun _ _ h => h))
              | refine Cj.cond rfl rfl (fun h => ?_) (fun h => ?_)
              | refine Cj.skip rfl (Ej.go ?_ (fun _ _ h => h))
              | (refine Cj.skip rfl (Ej.back (fun _ _ h => h) (by repeat (first | exact .refl | apply DropTo.tail)) ?_); repeat (first | exact trivial | refine ⟨rfl, ?_⟩))
              | refine Cj.seq rfl ?_
              | refine Cj.region rfl ?_))
        refine Jl.nil (Ej.cutP (ι := Nat × Option Addr × Nat) _ _ _ _ (fun _ _ h => h) (j + 1, A9, c9) ⟨by dsimp only; omega, by dsimp only; omega⟩ ⟨rfl, by dsimp only; rw [hacc]; rfl, rfl, rfl, trivial⟩ (by dsimp only; rw [hacc]; exact (by repeat (first | exact .nil | refine Pick.cons (by repeat (first | exact .z | apply OutAt.s)) ?_))) (fun p hp => hp))
    · obtain rfl : j = l.length := by omega
      repeat (first
          | (apply gateO; first
            | refine Jl.yd (Y.mv rfl rfl) rfl rfl rfl ?_
            | refine Jl.yd (Y.asg rfl rfl) rfl rfl rfl ?_
            | refine Jl.yd (Y.ext rfl rfl rfl) rfl rfl rfl ?_
            | refine Jl.yd (Y.pickT rfl rfl rfl) rfl rfl rfl ?_
            | refine Jl.yd (Y.pickF rfl rfl rfl) rfl rfl rfl ?_
            | refine Jl.off rfl rfl rfl ?_
            | refine Jl.yd (Y.cmpF rfl rfl rfl rfl (by omega)) rfl rfl rfl ?_
            | refine Jl.yd (Y.cmpT rfl rfl rfl rfl (by omega)) rfl rfl rfl ?_
            | refine Jl.yd (Y.neqB rfl rfl rfl Try.underlying4) rfl rfl rfl ?_
            | refine Jl.yd (Y.cmp rfl rfl rfl rfl) rfl rfl rfl ?_
            | refine Jl.yd (Y.not rfl rfl) rfl rfl rfl ?_
            | refine Jl.yd (Y.arithN rfl rfl rfl rfl (by omega)) rfl rfl rfl ?_
            | refine Jl.yd (Y.arith64 rfl rfl rfl rfl) rfl rfl rfl ?_
            | refine Jl.yd (Y.loadA rfl rfl agg26 (by repeat (first | exact .head _ | refine .tail _ ?_)) (by rfl)) rfl rfl rfl ?_
            | refine Jl.yd (Y.lenS Try.underlying65 rfl rfl rfl) rfl rfl rfl ?_
            | refine Jl.yd (Y.lenS Try.underlying24 rfl rfl rfl) rfl rfl rfl ?_
            | refine Jl.splitG rfl rfl (fun h => ?_) (fun h => ?_))
          | (apply gateE; first
            | refine Jl.nil (Ej.go ?_ (fun _ _ h => h))
            | (refine Jl.nil (Ej.back (fun _ _ h => h) (by repeat (first | exact .refl | apply DropTo.tail)) ?_); repeat (first | exact trivial | refine ⟨rfl, ?_⟩)))
          | (apply gateC; first
            | refine Cj.block rfl ?_
            | refine Cj.ret rfl (Ej.out2 (P := Try.prog) (fn := Try.f55) (R := Rr) (fun _ _ h => h) rfl rfl rfl (fun w' hW => ⟨_, rfl, by rw [hmd, hleft]; exact outH hW (by repeat (first | exact .nil | refine Pick.cons (by repeat (first | exact .z | apply OutAt.s)) ?_)), hW.below⟩))
            | refine Cj.condF rfl rfl (Cj.skip rfl (Ej.go ?_ (fun _ _ h => h)))
            | (refine Cj.condF rfl rfl (Cj.skip rfl (Ej.back (fun _ _ h => h) (by repeat (first | exact .refl | apply DropTo.tail)) ?_)); repeat (first | exact trivial | refine ⟨rfl, ?_⟩))
            | refine Cj.condF rfl rfl ?_
            | refine Cj.condT rfl rfl ?_
            | refine Cj.exit rfl (Ej.go ?_ (fun _ _ h => h))
            | refine Cj.cond rfl rfl (fun h => ?_) (fun h => ?_)
            | refine Cj.skip rfl (Ej.go ?_ (fun _ _ h => h))
            | (refine Cj.skip rfl (Ej.back (fun _ _ h => h) (by repeat (first | exact .refl | apply DropTo.tail)) ?_); repeat (first | exact trivial | refine ⟨rfl, ?_⟩))
            | refine Cj.seq rfl ?_
            | refine Cj.region rfl ?_))
end FM
end Go.Proofs.Ytkglpfdoefdhdaa.WK

namespace Go.Proofs.Ytkglpfdoefdhdaa.WK
open Go Go.RowKit Go.Proofs.Ytkglpfdoefdhdaa.Q Go.Proofs.Ytkglpfdoefdhdaa.M Go.Proofs.YtkglpfdoefdhdaaW.PrintWords Go.Proofs.YtkglpfdoefdhdaaW.SL
open Go.Proofs.YtkglpfdoefdhdaaW.Pl (nth nth_get)
open Go.Proofs.Ytkglpfdoefdhdaa.M.MN (mm lostL lostE)
set_option linter.unusedSimpArgs false
set_option linter.unusedVariables false
set_option maxRecDepth 100000
namespace FML
open MO (ordL agg26 mixed)
open MQ (leftL marksH marksH_len markHolesX heldHolesX)
theorem agg46 : AggT Try.prog 46 3 := ⟨by kernel_rfl⟩
theorem sz26 : SzT Try.prog 26 3 := ⟨by kernel_rfl⟩
theorem zero26 : ZeroT Try.prog 26 [.int .i64 0, .int .i64 0, .slice none 0 0] := ⟨by kernel_rfl⟩
theorem en27 : Ent Try.prog 27 := ⟨enters_of Try.func27 (by kernel_rfl) rfl⟩
theorem en40 : Ent Try.prog 40 := ⟨enters_of Try.func40 (by kernel_rfl) rfl⟩
theorem en29 : Ent Try.prog 29 := ⟨enters_of Try.func29 (by kernel_rfl) rfl⟩
theorem en42 : Ent Try.prog 42 := ⟨enters_of Try.func42 (by kernel_rfl) rfl⟩
theorem en55 : Ent Try.prog 55 := ⟨enters_of Try.func55 (by kernel_rfl) rfl⟩
theorem en56 : Ent Try.prog 56 := ⟨enters_of Try.func56 (by kernel_rfl) rfl⟩
theorem en33 : Ent Try.prog 33 := ⟨enters_of Try.func33 (by kernel_rfl) rfl⟩
theorem en45 : Ent Try.prog 45 := ⟨enters_of Try.func45 (by kernel_rfl) rfl⟩
theorem en34 : Ent Try.prog 34 := ⟨enters_of Try.func34 (by kernel_rfl) rfl⟩
theorem en46 : Ent Try.prog 46 := ⟨enters_of Try.func46 (by kernel_rfl) rfl⟩
theorem en52 : Ent Try.prog 52 := ⟨enters_of Try.func52 (by kernel_rfl) rfl⟩
def fmQ (wd ht : Int) (cs : List Int) (l : List S76) (m : Int) : List S76 × Bool := if (goodH wd ht cs l && decide (0 ≤ m ∧ m ≤ 10000)) = true then (leftL wd cs l m, true) else ([], false)
theorem fmQ_len (wd ht : Int) (cs : List Int) (l : List S76) (m : Int) : (fmQ wd ht cs l m).1.length ≤ l.length := by
  unfold fmQ
  split
  · show (leftL wd cs l m).length ≤ _
    unfold leftL
    rw [List.length_map, sortI_len, List.length_drop, MO.ordL_len]
    exact Nat.sub_le _ _
  · exact Nat.zero_le _
theorem held_n {k n c m : Nat} {r : Int} {w : World} {A : Option Addr} (hn : n = (marksH m).length) (hr : Kd.C k76 w A (marksH m).length (marksH m)) (hc : (marksH m).length ≤ c) (h : laws_heldHoleS.f k (marksH m) 1 = some r) : Calls Try.prog 52 #[.slice A n c, .int .i64 1] w fun e w' => e = .returned (.int .i64 r) ∧ Below w.heap.size w w' := by
  subst hn
  exact (laws_heldHoleS.calls k A c (marksH m) 1 r w hr hc h).mono (fun _ _ hh => ⟨hh.1, hh.2.below⟩)
theorem eqAny {xs : List S76} (hb : xs.length ≤ 1048576) {A A' : Option Addr} {c c' : Nat} {w : World} (h1 : Kd.C k76 w A xs.length xs) (h2 : xs.length ≤ c) (h3 : Kd.C k76 w A' xs.length xs) (h4 : xs.length ≤ c') : Calls Try.prog 45 #[.slice A xs.length c, .slice A' xs.length c'] w fun e w' => e = .returned (.bool true) ∧ Below w.heap.size w w' := by
  obtain ⟨k, hk⟩ := (eqHoles xs hb).rounds
  exact laws_eqHoleS.calls k A c xs A' c' xs true w h1 h2 h3 h4 hk
theorem sM {wd ht : Int} {cs : List Int} {l : List S76} (m0 : Int) (A0 : Option Addr) (c0 : Nat) (A1 : Option Addr) (c1 : Nat) (w : World) (hrC : Kd.C (Kd.int .i64) w A0 cs.length cs) (hc : cs.length ≤ c0) (hrH : Kd.C k76 w A1 l.length l) (hcl : l.length ≤ c1) (hlb : l.length ≤ 1048576) (hcb : cs.length ≤ 1048576) : Calls Try.prog 55 #[.agg #[.int .i64 wd, .int .i64 ht, .slice A0 cs.length c0], .slice A1 l.length c1, .int .i64 m0] w fun e w' => ∃ v, e = .returned (.tuple #[v, .bool (fmQ wd ht cs l m0).2]) ∧ k76.R 76 w' w.heap.size (fun _ => True) v (fmQ wd ht cs l m0).1 ∧ Below w.heap.size w w' := by
  cases hg : goodH wd ht cs l with
  | false => rw [show fmQ wd ht cs l m0 = ([], false) by unfold fmQ; rw [hg]; rfl]; exact FM.sNo m0 A0 c0 A1 c1 w hrC hc hrH hcl hlb hcb hg
  | true =>
    cases hin : decide (0 ≤ m0 ∧ m0 ≤ 10000) with
    | false => rw [show fmQ wd ht cs l m0 = ([], false) by unfold fmQ; rw [hg, hin]; rfl]; exact FM.sNoM m0 A0 c0 A1 c1 w hrC hc hrH hcl hlb hcb hg hin
    | true => rw [show fmQ wd ht cs l m0 = (leftL wd cs l m0, true) by unfold fmQ; rw [hg, hin]; rfl]; exact FM.sYes m0 A0 c0 A1 c1 w hrC hc hrH hcl hlb hcb hg hin
theorem iM {wd ht : Int} {cs : List Int} {l : List S76} (m0 : Int) (A0 : Option Addr) (c0 : Nat) (A1 : Option Addr) (c1 : Nat) (w : World) (hrC : Kd.C (Kd.int .i64) w A0 cs.length cs) (hc : cs.length ≤ c0) (hrH : Kd.C k76 w A1 l.length l) (hcl : l.length ≤ c1) (hlb : l.length ≤ 1048576) : Calls Try.prog 56 #[.agg #[.int .i64 wd, .int .i64 ht, .slice A0 cs.length c0], .slice A1 l.length c1, .int .i64 m0] w fun e w' => ∃ v, e = .returned (.tuple #[v, .bool (fmQ wd ht cs l m0).2]) ∧ k76.R 76 w' w.heap.size (fun _ => True) v (fmQ wd ht cs l m0).1 ∧ Below w.heap.size w w' := by
  cases hg : goodH wd ht cs l with
  | false => rw [show fmQ wd ht cs l m0 = ([], false) by unfold fmQ; rw [hg]; rfl]; exact FM.iNo m0 A0 c0 A1 c1 w hrC hc hrH hcl hlb hg
  | true =>
    cases hin : decide (0 ≤ m0 ∧ m0 ≤ 10000) with
    | false => rw [show fmQ wd ht cs l m0 = ([], false) by unfold fmQ; rw [hg, hin]; rfl]; exact FM.iNoM m0 A0 c0 A1 c1 w hrC hc hrH hcl hlb hg hin
    | true => rw [show fmQ wd ht cs l m0 = (leftL wd cs l m0, true) by unfold fmQ; rw [hg, hin]; rfl]; exact FM.iYes m0 A0 c0 A1 c1 w hrC hc hrH hcl hlb hg hin

set_option maxHeartbeats 2000000 in
theorem walkA (wd ht : Int) (cs : List Int) (l0 : List S73) (m0 : Int) (A0 : Option Addr) (c0 : Nat) (A1 : Option Addr) (c1 : Nat) (w : World) (hr0 : Kd.C (Kd.int .i64) w A0 cs.length cs) (hc0 : cs.length ≤ c0) (hr1 : Kd.C k73 w A1 l0.length l0) (hc1 : l0.length ≤ c1) (r : Int) (hz : laws_szChart.f wd ht cs 1048576 = some r) (hr : r < 0) : Calls Try.prog 9 #[.agg #[.int .i64 wd, .int .i64 ht, .slice A0 cs.length c0], .slice A1 l0.length c1, .int .i64 m0] w fun e w' => e = .returned (.bool true) ∧ Below w.heap.size w w' := by
  refine enterW (args := [.agg #[.int .i64 wd, .int .i64 ht, .slice A0 cs.length c0], .slice A1 l0.length c1, .int .i64 m0]) [(fun W => Kd.C (Kd.int .i64) W A0 cs.length cs), (fun W => Kd.C k73 W A1 l0.length l0)] (fun p hp W hb => by
    rcases List.mem_cons.1 hp with rfl | hp
    · exact Kd.C_below hr0 hb
    · rw [List.mem_singleton.1 hp]; exact Kd.C_below hr1 hb) Try.func9 rfl rfl ?_
  repeat (first
    | (apply gateO; first
      | refine Jl.yd (Y.mv rfl rfl) rfl rfl rfl ?_
      | refine Jl.yd (Y.asg rfl rfl) rfl rfl rfl ?_
      | refine Jl.yd (Y.ext rfl rfl rfl) rfl rfl rfl ?_
      | refine Jl.yd (Y.pickT rfl rfl rfl) rfl rfl rfl ?_
      | refine Jl.yd (Y.pickF rfl rfl rfl) rfl rfl rfl ?_
      | refine Jl.off rfl rfl rfl ?_
      | refine Jl.yd (Y.cmpF rfl rfl rfl rfl (by omega)) rfl rfl rfl ?_
      | refine Jl.yd (Y.cmpT rfl rfl rfl rfl (by omega)) rfl rfl rfl ?_
      | refine Jl.yd (Y.neqB rfl rfl rfl Try.underlying4) rfl rfl rfl ?_
      | refine Jl.yd (Y.cmp rfl rfl rfl rfl) rfl rfl rfl ?_
      | refine Jl.yd (Y.not rfl rfl) rfl rfl rfl ?_
      | refine Jl.yd (Y.arithN rfl rfl rfl rfl (by omega)) rfl rfl rfl ?_
      | refine Jl.yd (Y.arith64 rfl rfl rfl rfl) rfl rfl rfl ?_
      | refine Jl.yd (Y.loadA rfl rfl agg46 (by repeat (first | exact .head _ | refine .tail _ ?_)) (by rfl)) rfl rfl rfl ?_
      | refine Jl.yd (Y.loadA rfl rfl agg26 (by repeat (first | exact .head _ | refine .tail _ ?_)) (by rfl)) rfl rfl rfl ?_
      | refine Jl.alloc rfl rfl rfl rfl zero26 (fun g => ?_)
      | refine Jl.storeA rfl rfl rfl rfl rfl sz26 (by repeat (first | exact .z | apply SetAt.s)) (by rfl) (by rfl) ?_
      | refine Jl.call1 (v := .int .i64 r) rfl rfl rfl rfl en27 rfl (fun w hW => by with_reducible first | exact laws_szChart.calls wd ht _ _ cs 1048576 r w (hW.fact (p := (fun W => Kd.C (Kd.int .i64) W A0 cs.length cs)) (by repeat (first | exact memH | refine memT ?_))) hc0 hz | exact Calls.mono (laws_szChart.calls wd ht _ _ cs 1048576 r w (hW.fact (p := (fun W => Kd.C (Kd.int .i64) W A0 cs.length cs)) (by repeat (first | exact memH | refine memT ?_))) hc0 hz) (fun _ _ hh => ⟨hh.1, hh.2.below⟩)) ?_
      | refine Jl.box (zs := [.int .i64 wd, .int .i64 ht, .slice A0 cs.length c0]) rfl rfl rfl rfl rfl (by rfl) (fun g => ?_)
      | refine Jl.splitG rfl rfl (fun h => ?_) (fun h => ?_))
    | (apply gateE; first
      | refine Jl.nil (Ej.go ?_ (fun _ _ h => h))
      | (refine Jl.nil (Ej.back (fun _ _ h => h) (by repeat (first | exact .refl | apply DropTo.tail)) ?_); repeat (first | exact trivial | refine ⟨rfl, ?_⟩)))
    | (apply gateC; first
      | refine Cj.ret rfl (Ej.out1 (P := Try.prog) (fn := Try.f9) (R := fun e w' => e = .returned (.bool true) ∧ Below w.heap.size w w') (fun _ _ h => h) rfl rfl (fun w hW => ⟨rfl, hW.below⟩))
      | refine Cj.condF rfl rfl (Cj.skip rfl (Ej.go ?_ (fun _ _ h => h)))
      | (refine Cj.condF rfl rfl (Cj.skip rfl (Ej.back (fun _ _ h => h) (by repeat (first | exact .refl | apply DropTo.tail)) ?_)); repeat (first | exact trivial | refine ⟨rfl, ?_⟩))
      | refine Cj.condF rfl rfl ?_
      | refine Cj.condT rfl rfl ?_
      | refine Cj.exit rfl (Ej.go ?_ (fun _ _ h => h))
      | refine Cj.cond rfl rfl (fun h => ?_) (fun h => ?_)
      | refine Cj.skip rfl (Ej.go ?_ (fun _ _ h => h))
      | (refine Cj.skip rfl (Ej.back (fun _ _ h => h) (by repeat (first | exact .refl | apply DropTo.tail)) ?_); repeat (first | exact trivial | refine ⟨rfl, ?_⟩))
      | refine Cj.seq rfl ?_
      | refine Cj.region rfl ?_))

set_option maxHeartbeats 2000000 in
theorem walkB (wd ht : Int) (cs : List Int) (l0 : List S73) (m0 : Int) (A0 : Option Addr) (c0 : Nat) (A1 : Option Addr) (c1 : Nat) (w : World) (hr0 : Kd.C (Kd.int .i64) w A0 cs.length cs) (hc0 : cs.length ≤ c0) (hr1 : Kd.C k73 w A1 l0.length l0) (hc1 : l0.length ≤ c1) (r r2 : Int) (hz : laws_szChart.f wd ht cs 1048576 = some r) (hr : ¬ r < 0) (hz2 : laws_szHoleS.f l0 r = some r2) (hr2 : r2 < 0) : Calls Try.prog 9 #[.agg #[.int .i64 wd, .int .i64 ht, .slice A0 cs.length c0], .slice A1 l0.length c1, .int .i64 m0] w fun e w' => e = .returned (.bool true) ∧ Below w.heap.size w w' := by
  refine enterW (args := [.agg #[.int .i64 wd, .int .i64 ht, .slice A0 cs.length c0], .slice A1 l0.length c1, .int .i64 m0]) [(fun W => Kd.C (Kd.int .i64) W A0 cs.length cs), (fun W => Kd.C k73 W A1 l0.length l0)] (fun p hp W hb => by
    rcases List.mem_cons.1 hp with rfl | hp
    · exact Kd.C_below hr0 hb
    · rw [List.mem_singleton.1 hp]; exact Kd.C_below hr1 hb) Try.func9 rfl rfl ?_
  repeat (first
    | (apply gateO; first
      | refine Jl.yd (Y.mv rfl rfl) rfl rfl rfl ?_
      | refine Jl.yd (Y.asg rfl rfl) rfl rfl rfl ?_
      | refine Jl.yd (Y.ext rfl rfl rfl) rfl rfl rfl ?_
      | refine Jl.yd (Y.pickT rfl rfl rfl) rfl rfl rfl ?_
      | refine Jl.yd (Y.pickF rfl rfl rfl) rfl rfl rfl ?_
      | refine Jl.off rfl rfl rfl ?_
      | refine Jl.yd (Y.cmpF rfl rfl rfl rfl (by omega)) rfl rfl rfl ?_
      | refine Jl.yd (Y.cmpT rfl rfl rfl rfl (by omega)) rfl rfl rfl ?_
      | refine Jl.yd (Y.neqB rfl rfl rfl Try.underlying4) rfl rfl rfl ?_
      | refine Jl.yd (Y.cmp rfl rfl rfl rfl) rfl rfl rfl ?_
      | refine Jl.yd (Y.not rfl rfl) rfl rfl rfl ?_
      | refine Jl.yd (Y.arithN rfl rfl rfl rfl (by omega)) rfl rfl rfl ?_
      | refine Jl.yd (Y.arith64 rfl rfl rfl rfl) rfl rfl rfl ?_
      | refine Jl.yd (Y.loadA rfl rfl agg46 (by repeat (first | exact .head _ | refine .tail _ ?_)) (by rfl)) rfl rfl rfl ?_
      | refine Jl.yd (Y.loadA rfl rfl agg26 (by repeat (first | exact .head _ | refine .tail _ ?_)) (by rfl)) rfl rfl rfl ?_
      | refine Jl.alloc rfl rfl rfl rfl zero26 (fun g => ?_)
      | refine Jl.storeA rfl rfl rfl rfl rfl sz26 (by repeat (first | exact .z | apply SetAt.s)) (by rfl) (by rfl) ?_
      | refine Jl.call1 (v := .int .i64 r) rfl rfl rfl rfl en27 rfl (fun w hW => by with_reducible first | exact laws_szChart.calls wd ht _ _ cs 1048576 r w (hW.fact (p := (fun W => Kd.C (Kd.int .i64) W A0 cs.length cs)) (by repeat (first | exact memH | refine memT ?_))) hc0 hz | exact Calls.mono (laws_szChart.calls wd ht _ _ cs 1048576 r w (hW.fact (p := (fun W => Kd.C (Kd.int .i64) W A0 cs.length cs)) (by repeat (first | exact memH | refine memT ?_))) hc0 hz) (fun _ _ hh => ⟨hh.1, hh.2.below⟩)) ?_
      | refine Jl.call1 (v := .int .i64 r2) rfl rfl rfl rfl en40 rfl (fun w hW => by with_reducible first | exact laws_szHoleS.calls _ _ l0 r r2 w (hW.fact (p := (fun W => Kd.C k73 W A1 l0.length l0)) (by repeat (first | exact memH | refine memT ?_))) hc1 hz2 | exact Calls.mono (laws_szHoleS.calls _ _ l0 r r2 w (hW.fact (p := (fun W => Kd.C k73 W A1 l0.length l0)) (by repeat (first | exact memH | refine memT ?_))) hc1 hz2) (fun _ _ hh => ⟨hh.1, hh.2.below⟩)) ?_
      | refine Jl.box (zs := [.int .i64 wd, .int .i64 ht, .slice A0 cs.length c0]) rfl rfl rfl rfl rfl (by rfl) (fun g => ?_)
      | refine Jl.splitG rfl rfl (fun h => ?_) (fun h => ?_))
    | (apply gateE; first
      | refine Jl.nil (Ej.go ?_ (fun _ _ h => h))
      | (refine Jl.nil (Ej.back (fun _ _ h => h) (by repeat (first | exact .refl | apply DropTo.tail)) ?_); repeat (first | exact trivial | refine ⟨rfl, ?_⟩)))
    | (apply gateC; first
      | refine Cj.ret rfl (Ej.out1 (P := Try.prog) (fn := Try.f9) (R := fun e w' => e = .returned (.bool true) ∧ Below w.heap.size w w') (fun _ _ h => h) rfl rfl (fun w hW => ⟨rfl, hW.below⟩))
      | refine Cj.condF rfl rfl (Cj.skip rfl (Ej.go ?_ (fun _ _ h => h)))
      | (refine Cj.condF rfl rfl (Cj.skip rfl (Ej.back (fun _ _ h => h) (by repeat (first | exact .refl | apply DropTo.tail)) ?_)); repeat (first | exact trivial | refine ⟨rfl, ?_⟩))
      | refine Cj.condF rfl rfl ?_
      | refine Cj.condT rfl rfl ?_
      | refine Cj.exit rfl (Ej.go ?_ (fun _ _ h => h))
      | refine Cj.cond rfl rfl (fun h => ?_) (fun h => ?_)
      | refine Cj.skip rfl (Ej.go ?_ (fun _ _ h => h))
      | (refine Cj.skip rfl (Ej.back (fun _ _ h => h) (by repeat (first | exact .refl | apply DropTo.tail)) ?_); repeat (first | exact trivial | refine ⟨rfl, ?_⟩))
      | refine Cj.seq rfl ?_
      | refine Cj.region rfl ?_))

set_option maxHeartbeats 8000000 in
theorem walkC (wd ht : Int) (cs : List Int) (l0 : List S73) (m0 : Int) (A0 : Option Addr) (c0 : Nat) (A1 : Option Addr) (c1 : Nat) (w : World) (hr0 : Kd.C (Kd.int .i64) w A0 cs.length cs) (hc0 : cs.length ≤ c0) (hr1 : Kd.C k73 w A1 l0.length l0) (hc1 : l0.length ≤ c1) (r r2 : Int) (hz : laws_szChart.f wd ht cs 1048576 = some r) (hr : ¬ r < 0) (hz2 : laws_szHoleS.f l0 r = some r2) (hr2 : ¬ r2 < 0)
    (l l' : List S76) (cs' : List Int) (q : List S76) (qb : Bool) (qd : fmQ wd ht cs l m0 = (q, qb)) (hlb : l.length ≤ 1048576) (hqb : q.length ≤ 1048576) (hcb : cs.length ≤ 1048576) (kt kh kc km kn kp kx : Nat) (r3 r4 : Int) (htc : laws_toChart.f kt wd ht cs = some (wd, ht, cs)) (hth : laws_toHoleS.f kh l0 = some l) (hqc : laws_eqChart.f kc wd ht cs wd ht cs = some true)
    (hmc : laws_markChart.f km wd ht cs 1 = some (r3, cs')) (hmh : laws_markHoleS.f kn l r3 = some (r4, l')) (hr4 : ¬ r4 < 0) (hmq : laws_markHoleS.f kp q 1 = some (((4 * q.length + 1 : Nat) : Int), marksH q.length)) (hhe : laws_heldHoleS.f kx (marksH q.length) 1 = some ((4 * q.length + 1 : Nat) : Int)) : Calls Try.prog 9 #[.agg #[.int .i64 wd, .int .i64 ht, .slice A0 cs.length c0], .slice A1 l0.length c1, .int .i64 m0] w fun e w' => e = .returned (.bool true) ∧ Below w.heap.size w w' := by
  have sM := @sM wd ht cs l m0
  have iM := @iM wd ht cs l m0
  rw [qd] at sM iM
  dsimp only at sM iM
  refine enterW (args := [.agg #[.int .i64 wd, .int .i64 ht, .slice A0 cs.length c0], .slice A1 l0.length c1, .int .i64 m0]) [(fun W => Kd.C (Kd.int .i64) W A0 cs.length cs), (fun W => Kd.C k73 W A1 l0.length l0)] (fun p hp W hb => by
    rcases List.mem_cons.1 hp with rfl | hp
    · exact Kd.C_below hr0 hb
    · rw [List.mem_singleton.1 hp]; exact Kd.C_below hr1 hb) Try.func9 rfl rfl ?_
  repeat (first
    | (apply gateO; first
      | refine Jl.yd (Y.mv rfl rfl) rfl rfl rfl ?_
      | refine Jl.yd (Y.asg rfl rfl) rfl rfl rfl ?_
      | refine Jl.yd (Y.ext rfl rfl rfl) rfl rfl rfl ?_
      | refine Jl.yd (Y.pickT rfl rfl rfl) rfl rfl rfl ?_
      | refine Jl.yd (Y.pickF rfl rfl rfl) rfl rfl rfl ?_
      | refine Jl.off rfl rfl rfl ?_
      | refine Jl.yd (Y.cmpF rfl rfl rfl rfl (by omega)) rfl rfl rfl ?_
      | refine Jl.yd (Y.cmpT rfl rfl rfl rfl (by omega)) rfl rfl rfl ?_
      | refine Jl.yd (Y.neqB rfl rfl rfl Try.underlying4) rfl rfl rfl ?_
      | refine Jl.yd (Y.cmp rfl rfl rfl rfl) rfl rfl rfl ?_
      | refine Jl.yd (Y.not rfl rfl) rfl rfl rfl ?_
      | refine Jl.yd (Y.arithN rfl rfl rfl rfl (by omega)) rfl rfl rfl ?_
      | refine Jl.yd (Y.arith64 rfl rfl rfl rfl) rfl rfl rfl ?_
      | refine Jl.yd (Y.loadA rfl rfl agg46 (by repeat (first | exact .head _ | refine .tail _ ?_)) (by rfl)) rfl rfl rfl ?_
      | refine Jl.yd (Y.loadA rfl rfl agg26 (by repeat (first | exact .head _ | refine .tail _ ?_)) (by rfl)) rfl rfl rfl ?_
      | refine Jl.alloc rfl rfl rfl rfl zero26 (fun g => ?_)
      | refine Jl.storeA rfl rfl rfl rfl rfl sz26 (by repeat (first | exact .z | apply SetAt.s)) (by rfl) (by rfl) ?_
      | refine Jl.call1 (v := .int .i64 r) rfl rfl rfl rfl en27 rfl (fun w hW => by with_reducible first | exact laws_szChart.calls wd ht _ _ cs 1048576 r w (hW.fact (p := (fun W => Kd.C (Kd.int .i64) W A0 cs.length cs)) (by repeat (first | exact memH | refine memT ?_))) hc0 hz | exact Calls.mono (laws_szChart.calls wd ht _ _ cs 1048576 r w (hW.fact (p := (fun W => Kd.C (Kd.int .i64) W A0 cs.length cs)) (by repeat (first | exact memH | refine memT ?_))) hc0 hz) (fun _ _ hh => ⟨hh.1, hh.2.below⟩)) ?_
      | refine Jl.call1 (v := .int .i64 r2) rfl rfl rfl rfl en40 rfl (fun w hW => by with_reducible first | exact laws_szHoleS.calls _ _ l0 r r2 w (hW.fact (p := (fun W => Kd.C k73 W A1 l0.length l0)) (by repeat (first | exact memH | refine memT ?_))) hc1 hz2 | exact Calls.mono (laws_szHoleS.calls _ _ l0 r r2 w (hW.fact (p := (fun W => Kd.C k73 W A1 l0.length l0)) (by repeat (first | exact memH | refine memT ?_))) hc1 hz2) (fun _ _ hh => ⟨hh.1, hh.2.below⟩)) ?_
      | refine Jl.callR 0 (fun v => .agg #[.int .i64 wd, .int .i64 ht, v]) rfl rfl rfl rfl en29 rfl (fun w hW => by with_reducible exact laws_toChart.calls kt wd ht _ _ cs wd ht cs w (hW.fact (p := (fun W => Kd.C (Kd.int .i64) W A0 cs.length cs)) (by repeat (first | exact memH | refine memT ?_))) hc0 htc) (fun A c hl => ?_)
      | refine Jl.callR 0 (fun v => v) rfl rfl rfl rfl en42 rfl (fun w hW => by with_reducible exact laws_toHoleS.calls kh _ _ l0 l w (hW.fact (p := (fun W => Kd.C k73 W A1 l0.length l0)) (by repeat (first | exact memH | refine memT ?_))) hc1 hth) (fun A c hl => ?_)
      | refine Jl.callR 0 (fun v => .tuple #[v, .bool qb]) rfl rfl rfl rfl en55 rfl (fun w hW => by with_reducible exact sM _ _ _ _ w (hW.rowC (by repeat (first | exact memH | refine memT ?_))) (hW.rowCap (by repeat (first | exact memH | refine memT ?_))).2 (hW.rowC (by repeat (first | exact memH | refine memT ?_))) (hW.rowCap (by repeat (first | exact memH | refine memT ?_))).2 hlb hcb) (fun A c hl => ?_)
      | refine Jl.callR 0 (fun v => .tuple #[v, .bool qb]) rfl rfl rfl rfl en56 rfl (fun w hW => by with_reducible exact iM _ _ _ _ w (hW.rowC (by repeat (first | exact memH | refine memT ?_))) (hW.rowCap (by repeat (first | exact memH | refine memT ?_))).2 (hW.rowC (by repeat (first | exact memH | refine memT ?_))) (hW.rowCap (by repeat (first | exact memH | refine memT ?_))).2 hlb) (fun A c hl => ?_)
      | refine Jl.call1 (v := .bool true) rfl rfl rfl rfl en45 rfl (fun w hW => by with_reducible exact eqAny (by with_reducible first | exact hlb | exact hqb) (hW.rowC (by repeat (first | exact memH | refine memT ?_))) (hW.rowCap (by repeat (first | exact memH | refine memT ?_))).2 (hW.rowC (by repeat (first | exact memH | refine memT ?_))) (hW.rowCap (by repeat (first | exact memH | refine memT ?_))).2) ?_
      | refine Jl.call1 (v := .bool true) rfl rfl rfl rfl en33 rfl (fun w hW => by with_reducible first | exact laws_eqChart.calls kc wd ht _ _ cs wd ht _ _ cs true w (hW.rowC (by repeat (first | exact memH | refine memT ?_))) (hW.rowCap (by repeat (first | exact memH | refine memT ?_))).2 (hW.rowC (by repeat (first | exact memH | refine memT ?_))) (hW.rowCap (by repeat (first | exact memH | refine memT ?_))).2 hqc | exact Calls.mono (laws_eqChart.calls kc wd ht _ _ cs wd ht _ _ cs true w (hW.rowC (by repeat (first | exact memH | refine memT ?_))) (hW.rowCap (by repeat (first | exact memH | refine memT ?_))).2 (hW.rowC (by repeat (first | exact memH | refine memT ?_))) (hW.rowCap (by repeat (first | exact memH | refine memT ?_))).2 hqc) (fun _ _ hh => ⟨hh.1, hh.2.below⟩)) ?_
      | refine Jl.callMc (r := .int .i64 r3) (fun v => .row (Kd.int .i64) 3 0 v cs) (fun v => .row (Kd.int .i64) 3 0 v cs') rfl rfl rfl rfl en34 rfl (by with_reducible first | exact .z | exact .s (.z) | exact .s (.s (.z)) | exact .s (.s (.s (.z))) | exact .s (.s (.s (.s (.z)))) | exact .s (.s (.s (.s (.s (.z))))) | exact .s (.s (.s (.s (.s (.s (.z)))))) | exact .s (.s (.s (.s (.s (.s (.s (.z))))))) | exact .s (.s (.s (.s (.s (.s (.s (.s (.z)))))))) | exact .s (.s (.s (.s (.s (.s (.s (.s (.s (.z))))))))) | exact .s (.s (.s (.s (.s (.s (.s (.s (.s (.s (.z)))))))))) | exact .s (.s (.s (.s (.s (.s (.s (.s (.s (.s (.s (.z))))))))))) | exact .s (.s (.s (.s (.s (.s (.s (.s (.s (.s (.s (.s (.z)))))))))))) | exact .s (.s (.s (.s (.s (.s (.s (.s (.s (.s (.s (.s (.s (.z)))))))))))))) (fun w A hW hA => of_kept hA (fun P0 w0 hB hR => laws_markChart.calls km wd ht P0 _ cs _ _ _ w0 w hB hR hmc)) ?_
      | refine Jl.callMv (v := .int .i64 r4) (fun v => .row k76 76 0 v l) (fun v => .row k76 76 0 v l') rfl rfl rfl rfl en46 rfl (by with_reducible first | exact .z | exact .s (.z) | exact .s (.s (.z)) | exact .s (.s (.s (.z))) | exact .s (.s (.s (.s (.z)))) | exact .s (.s (.s (.s (.s (.z))))) | exact .s (.s (.s (.s (.s (.s (.z)))))) | exact .s (.s (.s (.s (.s (.s (.s (.z))))))) | exact .s (.s (.s (.s (.s (.s (.s (.s (.z)))))))) | exact .s (.s (.s (.s (.s (.s (.s (.s (.s (.z))))))))) | exact .s (.s (.s (.s (.s (.s (.s (.s (.s (.s (.z)))))))))) | exact .s (.s (.s (.s (.s (.s (.s (.s (.s (.s (.s (.z))))))))))) | exact .s (.s (.s (.s (.s (.s (.s (.s (.s (.s (.s (.s (.z)))))))))))) | exact .s (.s (.s (.s (.s (.s (.s (.s (.s (.s (.s (.s (.s (.z)))))))))))))) (fun w A hW hA => of_kept hA (fun P0 w0 hB hR => by with_reducible exact laws_markHoleS.calls kn P0 _ l _ _ _ w0 w hB hR hmh)) ?_
      | refine Jl.callMv (v := .int .i64 ((4 * q.length + 1 : Nat) : Int)) (fun v => .row k76 76 0 v q) (fun v => .row k76 76 0 v (marksH q.length)) rfl rfl rfl rfl en46 rfl (by with_reducible first | exact .z | exact .s (.z) | exact .s (.s (.z)) | exact .s (.s (.s (.z))) | exact .s (.s (.s (.s (.z)))) | exact .s (.s (.s (.s (.s (.z))))) | exact .s (.s (.s (.s (.s (.s (.z)))))) | exact .s (.s (.s (.s (.s (.s (.s (.z))))))) | exact .s (.s (.s (.s (.s (.s (.s (.s (.z)))))))) | exact .s (.s (.s (.s (.s (.s (.s (.s (.s (.z))))))))) | exact .s (.s (.s (.s (.s (.s (.s (.s (.s (.s (.z)))))))))) | exact .s (.s (.s (.s (.s (.s (.s (.s (.s (.s (.s (.z))))))))))) | exact .s (.s (.s (.s (.s (.s (.s (.s (.s (.s (.s (.s (.z)))))))))))) | exact .s (.s (.s (.s (.s (.s (.s (.s (.s (.s (.s (.s (.s (.z)))))))))))))) (fun w A hW hA => of_kept hA (fun P0 w0 hB hR => by with_reducible exact laws_markHoleS.calls kp P0 _ q _ _ _ w0 w hB hR hmq)) ?_
      | refine Jl.call1 (v := .int .i64 ((4 * q.length + 1 : Nat) : Int)) rfl rfl rfl rfl en52 rfl (fun w hW => by with_reducible first | exact held_n (hW.rowCap (by repeat (first | exact memH | refine memT ?_))).1 (hW.rowC (by repeat (first | exact memH | refine memT ?_))) (hW.rowCap (by repeat (first | exact memH | refine memT ?_))).2 hhe | exact Calls.mono (held_n (hW.rowCap (by repeat (first | exact memH | refine memT ?_))).1 (hW.rowC (by repeat (first | exact memH | refine memT ?_))) (hW.rowCap (by repeat (first | exact memH | refine memT ?_))).2 hhe) (fun _ _ hh => ⟨hh.1, hh.2.below⟩)) ?_
      | refine Jl.box (zs := [.int .i64 wd, .int .i64 ht, .slice A0 cs.length c0]) rfl rfl rfl rfl rfl (by rfl) (fun g => ?_)
      | refine Jl.splitG rfl rfl (fun h => ?_) (fun h => ?_))
    | (apply gateE; first
      | refine Jl.nil (Ej.go ?_ (fun _ _ h => h))
      | (refine Jl.nil (Ej.back (fun _ _ h => h) (by repeat (first | exact .refl | apply DropTo.tail)) ?_); repeat (first | exact trivial | refine ⟨rfl, ?_⟩)))
    | (apply gateC; first
      | refine Cj.regionD rfl (mkD [0, 1, 4] []) [] [0, 1, 2, 3, 4] mixed (by decide +kernel) ?_
      | refine Cj.ret rfl (Ej.out1 (P := Try.prog) (fn := Try.f9) (R := fun e w' => e = .returned (.bool true) ∧ Below w.heap.size w w') (fun _ _ h => h) rfl rfl (fun w hW => ⟨rfl, hW.below⟩))
      | refine Cj.condF rfl rfl (Cj.skip rfl (Ej.go ?_ (fun _ _ h => h)))
      | (refine Cj.condF rfl rfl (Cj.skip rfl (Ej.back (fun _ _ h => h) (by repeat (first | exact .refl | apply DropTo.tail)) ?_)); repeat (first | exact trivial | refine ⟨rfl, ?_⟩))
      | refine Cj.condF rfl rfl ?_
      | refine Cj.condT rfl rfl ?_
      | refine Cj.exit rfl (Ej.go ?_ (fun _ _ h => h))
      | refine Cj.cond rfl rfl (fun h => ?_) (fun h => ?_)
      | refine Cj.skip rfl (Ej.go ?_ (fun _ _ h => h))
      | (refine Cj.skip rfl (Ej.back (fun _ _ h => h) (by repeat (first | exact .refl | apply DropTo.tail)) ?_); repeat (first | exact trivial | refine ⟨rfl, ?_⟩))
      | refine Cj.seq rfl ?_
      | refine Cj.region rfl ?_))

/-- The program's FirstMended returns what the reference's returns. -/
theorem full (wd ht : Int) (cs : List Int) (l0 : List S73) (m0 : Int) (A0 : Option Addr) (c0 : Nat) (A1 : Option Addr) (c1 : Nat) (w : World) (hr0 : Kd.C (Kd.int .i64) w A0 cs.length cs) (hc0 : cs.length ≤ c0) (hr1 : Kd.C k73 w A1 l0.length l0) (hc1 : l0.length ≤ c1) (hm0 : cs.length ≤ maxLen) (hm1 : l0.length ≤ maxLen) : Calls Try.prog 9 #[.agg #[.int .i64 wd, .int .i64 ht, .slice A0 cs.length c0], .slice A1 l0.length c1, .int .i64 m0] w fun e w' => e = .returned (.bool true) ∧ Below w.heap.size w w' := by
  obtain ⟨r, hz, hr⟩ := szChart wd ht cs 1048576 hm0 (by omega)
  by_cases h1 : r < 0
  · exact walkA wd ht cs l0 m0 A0 c0 A1 c1 w hr0 hc0 hr1 hc1 r hz h1
  obtain ⟨h2, h3, hcs⟩ := hr.resolve_left h1
  obtain ⟨r2, hz2, hr2⟩ := szHoles l0 r hm1 ⟨h2, h3⟩
  by_cases h4 : r2 < 0
  · exact walkB wd ht cs l0 m0 A0 c0 A1 c1 w hr0 hc0 hr1 hc1 r r2 hz h1 hz2 h4
  obtain ⟨_, _, hls⟩ := hr2.resolve_left h4
  obtain ⟨kt, e1⟩ := (toChart wd ht cs hcs).rounds
  obtain ⟨kh, e2⟩ := (toHoles l0 hls).rounds
  have hl : (l0.map cvHole).length ≤ 1048576 := by simpa using hls
  generalize l0.map cvHole = l at e2 hl
  have hql0 := fmQ_len wd ht cs l m0
  obtain ⟨⟨q, qb⟩, qd⟩ : ∃ q, fmQ wd ht cs l m0 = q := ⟨_, rfl⟩
  rw [qd] at hql0
  have hql : q.length ≤ 1048576 := Nat.le_trans hql0 hl
  obtain ⟨ke, e5⟩ := (eqHoles q hql).rounds
  obtain ⟨kc, e6⟩ := (eqChart wd ht cs hcs).rounds
  obtain ⟨kq, e7⟩ := (eqHoles l hl).rounds
  obtain ⟨p3, f1, hM⟩ := markChart wd ht cs hcs 1 (by omega)
  obtain ⟨km, e8⟩ := hM.rounds
  obtain ⟨l', hN⟩ := markHoles l hl (1 + cs.length) (by omega)
  obtain ⟨kn, e9⟩ := hN.rounds
  obtain ⟨kp, e10⟩ := (markHolesX q hql).rounds
  obtain ⟨kx, e11⟩ := (heldHolesX q.length hql).rounds
  rw [← f1] at e9
  exact walkC wd ht cs l0 m0 A0 c0 A1 c1 w hr0 hc0 hr1 hc1 r r2 hz h1 hz2 h4 l l' p3.2 q qb qd hl hql hcs kt kh kc km kn kp kx p3.1 _ e1 e2 e6 e8 e9 (by omega) e10 e11
end FML
end Go.Proofs.Ytkglpfdoefdhdaa.WK

namespace Go.Proofs.Ytkglpfdoefdhdaa.Wk
open Go Go.RowKit Go.Proofs.Ytkglpfdoefdhdaa.Q Go.Proofs.Ytkglpfdoefdhdaa.WK Go.Proofs.YtkglpfdoefdhdaaW.PrintWords
theorem FnExactFirstMended : laws_FnExactFirstMended.Goal := fun wd ht cs l0 m0 A0 c0 A1 c1 w hr0 hc0 hr1 hc1 q0 q1 _ => FML.full wd ht cs l0 m0 A0 c0 A1 c1 w hr0 hc0 hr1 hc1 q0.2.2.1 q1.1
end Go.Proofs.Ytkglpfdoefdhdaa.Wk

namespace Go.Proofs.Ytkglpfdoefdhdaa.fnExactFirstMended
open Go.ChangeShapes Go.WideShapes Go.ChangeAt Go.RowKit Go.Proofs.Ytkglpfdoefdhdaa.Q Go.Proofs.YtkglpfdoefdhdaaW.Open Go.Proofs.YtkglpfdoefdhdaaW.PrintWords
set_option linter.unusedVariables false
theorem own : ownKnob Try.prog.godebug = none := by kernel_rfl
theorem laidOut : laidOutB Try.prog = true := by kernel_rfl
set_option maxRecDepth 100000 in
theorem lifted (os : Os) (started : os.Started) (H : Type) (enc : TypeId × Value → H) :
    ReturnsInHanded {} Try.checked os 9 .any (Rows.fnExactFirstMendedSpec.pre6 enc Try.prog Try.f9 Rows.fnExactFirstMendedRow.domain false) (Rows.fnExactFirstMendedSpec.post enc Try.prog Try.f9 false true false false) := by
  refine returnsInHanded_of_change_sized (C := Try.checked) own started (by kernel_rfl) Try.func9
    (ChangeSpec.witness6 (enc := enc) (C := Try.checked) false ⟨#[], #[.agg #[.int .i64 0, .int .i64 0, .slice none 0 0], .slice none 0 0, .int .i64 0], []⟩ 8 (by kernel_rfl) (by kernel_rfl) (by kernel_rfl) (by kernel_rfl)) ?_
  intro W base args ds gs before hval0 hW hcnd hsz0 _
  have hval : ∀ (j : Nat) t v, Try.f9.params[j]? = some t → args[j]? = some v → Value.okWide Try.prog W .any base t v := hval0
  have hW' := hW
  obtain ⟨p, q, hA0, hV, rfl, hfz, hnd⟩ := hW
  have hA : DataW.TrodAll enc Try.prog W 0 (fun _ => true) true Try.f9.params.toList args.toList ds p := hA0
  rw [Try.params9] at hA hval
  obtain ⟨v0, vs0, d0, ds0, p0, q0, hargs, rfl, rfl, h0, r0⟩ := trodAll_cons hA
  obtain ⟨v1, vs1, d1, ds1, p1, q1, rfl, rfl, rfl, h1, r1⟩ := trodAll_cons r0
  obtain ⟨v2, vs2, d2, ds2, p2, q2, rfl, rfl, rfl, h2, r2⟩ := trodAll_cons r1
  obtain ⟨rfl, rfl, rfl⟩ := trodAll_nil r2
  obtain rfl : args = #[v0, v1, v2] := by cases args; simp_all
  obtain ⟨rfl, rfl⟩ := trodVars_none hV
  have k0 := h0
  have lt0 : ∀ x ∈ p0, x.block < W.heap.size := by obtain ⟨m, hm⟩ := k0; exact DataW.trod_lt m _ _ _ hm
  obtain ⟨cs0, rfl, _⟩ := okWide_struct Try.underlying46 (hval 0 46 v0 rfl rfl)
  obtain ⟨fu0, hf0⟩ := h0
  obtain ⟨x0, hk0, q0⟩ := (opn46).out hf0
  have ho0 := k46_open hk0
  obtain ⟨A0_2, c0_2, ho0, hc0_2, hr0_2⟩ := ho0
  obtain rfl : cs0 = #[.int .i64 x0.f0, .int .i64 x0.f1, .slice A0_2 x0.f2.length c0_2] := by cases cs0; simpa [Value.cells] using ho0
  have k1 := h1
  have lt1 : ∀ x ∈ p1, x.block < W.heap.size := by obtain ⟨m, hm⟩ := k1; exact DataW.trod_lt m _ _ _ hm
  obtain ⟨a1, len1, cap1, rfl⟩ := okWide_slice Try.underlying60 (hval 1 60 v1 rfl rfl)
  obtain ⟨fu1, hf1⟩ := h1
  obtain ⟨x1, ⟨A1, c1, hk1, hc1, hr1⟩, q1⟩ := ((Opn.slice Try.underlying60 (n0 := 4) (by kernel_rfl) rfl opn73)).out hf1
  simp [Value.cells] at hk1
  obtain ⟨rfl, rfl, rfl⟩ := hk1
  have k2 := h2
  have lt2 : ∀ x ∈ p2, x.block < W.heap.size := by obtain ⟨m, hm⟩ := k2; exact DataW.trod_lt m _ _ _ hm
  obtain ⟨a2, rfl, _, _, q2⟩ := open_int Try.underlying3 (hval 2 3 v2 rfl rfl) h2
  refine (Go.Proofs.Ytkglpfdoefdhdaa.Wk.FnExactFirstMended x0.f0 x0.f1 x0.f2 x1 a2 A0_2 c0_2 _ _ W hr0_2 hc0_2 hr1 hc1 q0 q1 q2).mono fun e W' ⟨he, bel⟩ => ?_
  subst he
  exact ⟨_, rfl, _, _, _, [], _, [], hW', trodAll_mk1 (shut_bool Try.underlying4 _), (trodAll_cons_mk (Below.trod laidOut (by kernel_rfl) (of_decide_eq_true (by kernel_rfl)) k0 bel lt0) (trodAll_cons_mk (Below.trod laidOut (by kernel_rfl) (of_decide_eq_true (by kernel_rfl)) k1 bel lt1) (trodAll_cons_mk (Below.trod laidOut (by kernel_rfl) (of_decide_eq_true (by kernel_rfl)) k2 bel lt2) trodAll_mk0))), rfl, bel.frame _, fun h => by cases h⟩
theorem over : Rows.fnExactFirstMendedRow.holds Try.pinned (OpenSpec.ofChange Rows.fnExactFirstMendedSpec) :=
  OpenClaim.holds_of_wide 9 Try.f9 rfl rfl rfl rfl rfl rfl rfl ⟨rfl, rfl, rfl, rfl, rfl⟩ rfl rfl rfl rfl rfl (by kernel_rfl) Try.func9 (by kernel_rfl)
    (of_decide_eq_true (by kernel_rfl)) (by unfold Func.isWrapper; first | (rw [if_pos (by decide +kernel)]; kernel_rfl) | (rw [if_neg (by decide +kernel)]; exact ⟨rfl, rfl⟩))
    (fun os started H enc _ => lifted os started H enc)
theorem proved : Rows.FnExactFirstMendedSaid := over
end Go.Proofs.Ytkglpfdoefdhdaa.fnExactFirstMended
namespace Go.Proofs.Ytkglpfdoefdhdaa
/-- The row, under a short name, for the claim. -/
theorem fnExactFirstMended_holds : Rows.FnExactFirstMendedSaid := fnExactFirstMended.proved
end Go.Proofs.Ytkglpfdoefdhdaa

#print axioms Go.Proofs.Ytkglpfdoefdhdaa.fnExactFirstMended_holds
