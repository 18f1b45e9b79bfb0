/- The program's MendOrder returns what the reference's returns, for all arguments: no condition. -/
import Derived.KernelRfl
import Derived.Test.YtkglpfdoefdhdaaRows
import Derived.WalkKit
import Derived.ProofKit
import Derived.OpenShut
import Derived.ShutString
import Derived.ChangeOld
import Derived.Below
import Derived.SizedLaws
import Derived.Carry
import Derived.ChangeVars
import Derived.Test.YtkglpfdoefdhdaaZFnExactMendOrder6
namespace Go.Proofs.Ytkglpfdoefdhdaa.WK
open Go Go.RowKit Go.Proofs.Ytkglpfdoefdhdaa.Q Go.Proofs.Ytkglpfdoefdhdaa.M Go.Proofs.YtkglpfdoefdhdaaW.PrintWords Go.Proofs.YtkglpfdoefdhdaaW.SL
open Go.Proofs.YtkglpfdoefdhdaaW.Pl (nth nth_get)
open Go.Proofs.Ytkglpfdoefdhdaa.M.MN (mm lostL lostE)
set_option linter.unusedSimpArgs false
set_option linter.unusedVariables false
set_option maxRecDepth 100000
namespace MO
theorem sc3 : ScT Try.prog 3 := ⟨by kernel_rfl⟩
theorem sc65 : ScT Try.prog 65 := ⟨by kernel_rfl⟩
theorem zero3 : ZeroT Try.prog 3 [.int .i64 0] := ⟨by kernel_rfl⟩
theorem el24 : ElT Try.prog 24 3 1 := ⟨by kernel_rfl⟩
theorem el65 : ElT Try.prog 65 76 4 := ⟨by kernel_rfl⟩
theorem en122 : Ent Try.prog 122 := ⟨enters_of Try.func122 (by kernel_rfl) rfl⟩
theorem en121 : Ent Try.prog 121 := ⟨enters_of Try.func121 (by kernel_rfl) rfl⟩
theorem en85 : Ent Try.prog 85 := ⟨enters_of Try.func85 (by kernel_rfl) rfl⟩
theorem en63 : Ent Try.prog 63 := ⟨enters_of Try.func63 (by kernel_rfl) rfl⟩
theorem en83 : Ent Try.prog 83 := ⟨enters_of Try.func83 (by kernel_rfl) rfl⟩
theorem mixed : Try.prog.follows .mixedOrders = true := by kernel_rfl
theorem ap24 : ApT Try.prog 24 3 1 8 := apT_of (z := .int .i64 0) Try.underlying24 (by kernel_rfl) rfl (by decide)

/-- Is a hole mended quicker than another one? -/
def ltM (wd : Int) (cs : List Int) (l : List S76) (a b : Int) : Bool := decide (mm wd cs (nth l a.toNat z76) < mm wd cs (nth l b.toNat z76))
def rng (n : Nat) : List Int := (List.range n).map fun i : Nat => (i : Int)
theorem rng_succ (n : Nat) : rng (n + 1) = rng n ++ [(n : Int)] := by simp [rng, List.range_succ]
theorem rng_len (n : Nat) : (rng n).length = n := by simp [rng]
theorem rng_mem {n : Nat} {a : Int} (h : a ∈ rng n) : ∃ i : Nat, i < n ∧ a = (i : Int) := by
  obtain ⟨i, hi, rfl⟩ := List.mem_map.1 h
  exact ⟨i, List.mem_range.1 hi, rfl⟩
/-- The holes so far, in the order in which they are mended. -/
def ordL (wd : Int) (cs : List Int) (l : List S76) (n : Nat) : List Int := isort (ltM wd cs l) (rng n)
theorem ordL_succ (wd : Int) (cs : List Int) (l : List S76) (n : Nat) : ordL wd cs l (n + 1) = insR (ltM wd cs l) (ordL wd cs l n) (n : Int) := by unfold ordL; rw [rng_succ, isort_snoc]
theorem ordL_len (wd : Int) (cs : List Int) (l : List S76) (n : Nat) : (ordL wd cs l n).length = n := by unfold ordL; rw [isort_len, rng_len]
theorem ordL_mem {wd : Int} {cs : List Int} {l : List S76} {n : Nat} {a : Int} (h : a ∈ ordL wd cs l n) : ∃ i : Nat, i < n ∧ a = (i : Int) := rng_mem (isort_mem h)
theorem goodHole {wd ht : Int} {cs : List Int} {l : List S76} (hg : goodH wd ht cs l = true) : goodC wd ht cs = true ∧ l.length ≤ 8 ∧ ∀ i, i < l.length → okH wd ht (nth l i z76) = true := by
  obtain ⟨h1, h2, h3⟩ := goodH_at hg
  refine ⟨h1, h2, fun i hi => ?_⟩
  have := h3 i hi
  unfold holeAt at this
  rw [Bool.and_eq_true] at this
  exact this.1
theorem outI {w0 w : World} {v : Value} {xs : List Int} {its : List Go.Proofs.YtkglpfdoefdhdaaW.SL.Item} {ps : List (World → Prop)} (h : WS (base w0) w its ps) (hpk : Pick its [.row KI 3 0 v xs]) : (Kd.int .i64).R 3 w w0.heap.size (fun _ => True) v xs := by
  obtain ⟨h1, S, ⟨Aa, C1, g1, g2, g3, g4⟩, h3, h4⟩ := h.pick hpk
  have hown : ∀ k, v.ownBlock = some k → w0.heap.size ≤ k := fun k hk => (h3 k ((g3 k).2 (.inl (g1.1.1 k hk)))).resolve_left (fun h => h)
  exact Kd.R_mono (Kd.R_raise (b := 0) (fun _ _ _ _ h => h) g1.1 hown) (fun _ _ => trivial)

set_option maxHeartbeats 4000000 in
/-- The closure: which of two holes takes longer? -/
theorem clo {wd ht : Int} {cs : List Int} {l : List S76} (hg : goodC wd ht cs = true) (ho : ∀ i, i < l.length → okH wd ht (nth l i z76) = true) (A0 : Option Addr) (c0 : Nat) (A1 : Option Addr) (c1 gc gh : Nat) (w : World) (hc : cs.length ≤ c0)
    (hbC : w.heap[gc]? = some (.cells ([.int .i64 wd, .int .i64 ht, .slice A0 cs.length c0] : List Value).toArray 26 (0, 0))) (hbH : w.heap[gh]? = some (.cells ([.slice A1 l.length c1] : List Value).toArray 65 (0, 0))) (hrC : Kd.C (Kd.int .i64) w A0 cs.length cs) (hrH : Kd.C k76 w A1 l.length l) (i k : Nat) (hi : i < l.length) (hk : k < l.length) (hl8 : l.length ≤ 8) :
    Calls Try.prog 121 (#[.int .i64 (i : Int), .int .i64 (k : Int)] ++ #[.pointer (some ⟨gc, 0, none⟩), .pointer (some ⟨gh, 0, none⟩)]) w fun e w' => e = .returned (.int .i64 (cmpI (mm wd cs (nth l i z76)) (mm wd cs (nth l k z76)))) ∧ Below w.heap.size w w' := by
  have hltC := blk_lt hbC
  have hltH := blk_lt hbH
  obtain ⟨ad, rfl, _⟩ := hrH.2.2 (by omega)
  obtain ⟨x, hx⟩ : ∃ x, nth l i z76 = x := ⟨_, rfl⟩
  obtain ⟨y, hy⟩ : ∃ y, nth l k z76 = y := ⟨_, rfl⟩
  have hxo : okH wd ht x = true := hx ▸ ho i hi
  have hyo : okH wd ht y = true := hy ▸ ho k hk
  have hux : ([.int .i64 (l.getD ((i : Int)).toNat z76).f0, .int .i64 (l.getD ((i : Int)).toNat z76).f1, .int .i64 (l.getD ((i : Int)).toNat z76).f2, .int .i64 (l.getD ((i : Int)).toNat z76).f3] : List Value) = [.int .i64 x.f0, .int .i64 x.f1, .int .i64 x.f2, .int .i64 x.f3] := by
    have hx2 : l.getD i z76 = x := hx
    rw [Int.toNat_natCast, hx2]
  have huy : ([.int .i64 (l.getD ((k : Int)).toNat z76).f0, .int .i64 (l.getD ((k : Int)).toNat z76).f1, .int .i64 (l.getD ((k : Int)).toNat z76).f2, .int .i64 (l.getD ((k : Int)).toNat z76).f3] : List Value) = [.int .i64 y.f0, .int .i64 y.f1, .int .i64 y.f2, .int .i64 y.f3] := by
    have hx2 : l.getD k z76 = y := hy
    rw [Int.toNat_natCast, hx2]
  rw [hx, hy]
  let Rr : Ending → World → Prop := fun e w' => e = .returned (.int .i64 (cmpI (mm wd cs x) (mm wd cs y))) ∧ Below w.heap.size w w'
  rw [show (#[Value.int .i64 (i : Int), .int .i64 (k : Int)] ++ #[Value.pointer (some ⟨gc, 0, none⟩), .pointer (some ⟨gh, 0, none⟩)] : Array Value) = [Value.int .i64 (i : Int), .int .i64 (k : Int), .pointer (some ⟨gc, 0, none⟩), .pointer (some ⟨gh, 0, none⟩)].toArray from by simp]
  refine enterW (args := [.int .i64 (i : Int), .int .i64 (k : Int), .pointer (some ⟨gc, 0, none⟩), .pointer (some ⟨gh, 0, none⟩)]) [(fun W => Cells W ⟨gc, 0, none⟩ [.int .i64 wd, .int .i64 ht, .slice A0 cs.length c0]), (fun W => Cells W ⟨gh, 0, none⟩ [.slice (some ad) l.length c1]), (fun W => Kd.C (Kd.int .i64) W A0 cs.length cs), (fun W => Kd.C k76 W (some ad) l.length l)] (fun p hp W hb => by
    rcases List.mem_cons.1 hp with rfl | hp
    · have := Box_cells (w := W) (g := gc) (T' := 26) (cs := [.int .i64 wd, .int .i64 ht, .slice A0 cs.length c0]) (by rw [hb.block gc hltC]; exact hbC) 0
      simpa using this
    rcases List.mem_cons.1 hp with rfl | hp
    · have := Box_cells (w := W) (g := gh) (T' := 65) (cs := [.slice (some ad) l.length c1]) (by rw [hb.block gh hltH]; exact hbH) 0
      simpa using this
    rcases List.mem_cons.1 hp with rfl | hp
    · exact Kd.C_below hrC hb
    · rw [List.mem_singleton.1 hp]; exact Kd.C_below hrH hb) Try.func121 rfl rfl ?_
  show Cj Try.prog _ _ _ (bodyPost Try.prog Try.f121 Rr) _ _ _
  repeat (first
    | (apply gateO; first
      | refine Jl.yd (Y.mv rfl rfl) rfl rfl rfl ?_
      | refine Jl.yd (Y.asg rfl rfl) rfl rfl rfl ?_
      | refine Jl.yd (Y.ext rfl rfl rfl) rfl rfl rfl ?_
      | refine Jl.yd (Y.pickT rfl rfl rfl) rfl rfl rfl ?_
      | refine Jl.yd (Y.pickF rfl rfl rfl) rfl rfl rfl ?_
      | refine Jl.off rfl rfl rfl ?_
      | refine Jl.yd (Y.cmpF rfl rfl rfl rfl (by omega)) rfl rfl rfl ?_
      | refine Jl.yd (Y.cmpT rfl rfl rfl rfl (by omega)) rfl rfl rfl ?_
      | refine Jl.yd (Y.neqB rfl rfl rfl Try.underlying4) rfl rfl rfl ?_
      | refine Jl.yd (Y.cmp rfl rfl rfl rfl) rfl rfl rfl ?_
      | refine Jl.yd (Y.not rfl rfl) rfl rfl rfl ?_
      | refine Jl.yd (Y.arithN rfl rfl rfl rfl (by omega)) rfl rfl rfl ?_
      | refine Jl.yd (Y.arith64 rfl rfl rfl rfl) rfl rfl rfl ?_
      | refine Jl.yd (Y.loadF (us := [.int .i64 wd, .int .i64 ht, .slice A0 cs.length c0]) rfl rfl agg26 (by repeat (first | exact .head _ | refine .tail _ ?_)) (by rfl)) rfl rfl rfl ?_
      | refine Jl.yd (Y.loadF1 (us := [.slice (some ad) l.length c1]) rfl rfl sc65 (by repeat (first | exact .head _ | refine .tail _ ?_)) rfl) rfl rfl rfl ?_
      | refine Jl.yd (Y.idx rfl rfl rfl el65 (by omega) (by omega)) rfl rfl rfl ?_
      | refine Jl.yd (Y.loadK z76 [.int .i64 x.f0, .int .i64 x.f1, .int .i64 x.f2, .int .i64 x.f3] rfl rfl agg76 (by repeat (first | exact .head _ | refine .tail _ ?_)) ((i : Int)) (by omega) (by omega) (by rfl) (fun w cs h => (k76_open h).trans hux) (by rfl)) rfl rfl rfl ?_
      | refine Jl.yd (Y.loadK z76 [.int .i64 y.f0, .int .i64 y.f1, .int .i64 y.f2, .int .i64 y.f3] rfl rfl agg76 (by repeat (first | exact .head _ | refine .tail _ ?_)) ((k : Int)) (by omega) (by omega) (by rfl) (fun w cs h => (k76_open h).trans huy) (by rfl)) rfl rfl rfl ?_
      | refine Jl.call1 (v := .int .i64 (mm wd cs x)) rfl rfl rfl rfl en122 rfl (fun w hW => by with_reducible exact minutes hg hxo A0 c0 w (hW.fact (p := (fun W => Kd.C (Kd.int .i64) W A0 cs.length cs)) (by repeat (first | exact memH | refine memT ?_))) hc) ?_
      | refine Jl.call1 (v := .int .i64 (mm wd cs y)) rfl rfl rfl rfl en122 rfl (fun w hW => by with_reducible exact minutes hg hyo A0 c0 w (hW.fact (p := (fun W => Kd.C (Kd.int .i64) W A0 cs.length cs)) (by repeat (first | exact memH | refine memT ?_))) hc) ?_
      | refine Jl.call1 (v := .int .i64 (cmpI (mm wd cs x) (mm wd cs y))) rfl rfl rfl rfl en85 rfl (fun w hW => (cmp_Compare_int.calls (mm wd cs x) (mm wd cs y) (cmpI (mm wd cs x) (mm wd cs y)) w (cmp_f _ _)).mono (fun _ _ h => ⟨h.1, h.2.below⟩)) ?_
      | refine Jl.splitG rfl rfl (fun h => ?_) (fun h => ?_))
    | (apply gateE; first
      | refine Jl.nil (Ej.go ?_ (fun _ _ h => h))
      | (refine Jl.nil (Ej.back (fun _ _ h => h) (by repeat (first | exact .refl | apply DropTo.tail)) ?_); repeat (first | exact trivial | refine ⟨rfl, ?_⟩)))
    | (apply gateC; first
      | refine Cj.regionD rfl (mkD [0, 1, 2, 3, 4, 5, 6, 7, 8, 9, 13] []) [] [0, 1, 2, 3, 4, 6, 7, 8, 9, 10, 5, 11, 12, 13] mixed (by decide +kernel) ?_
      | refine Cj.ret rfl (Ej.out1 (P := Try.prog) (fn := Try.f121) (R := Rr) (fun _ _ h => h) rfl rfl (fun w' hW => ⟨rfl, hW.below⟩))
      | refine Cj.condF rfl rfl (Cj.skip rfl (Ej.go ?_ (fun _ _ h => h)))
      | (refine Cj.condF rfl rfl (Cj.skip rfl (Ej.back (fun _ _ h => h) (by repeat (first | exact .refl | apply DropTo.tail)) ?_)); repeat (first | exact trivial | refine ⟨rfl, ?_⟩))
      | refine Cj.condF rfl rfl ?_
      | refine Cj.condT rfl rfl ?_
      | refine Cj.exit rfl (Ej.go ?_ (fun _ _ h => h))
      | refine Cj.cond rfl rfl (fun h => ?_) (fun h => ?_)
      | refine Cj.skip rfl (Ej.go ?_ (fun _ _ h => h))
      | (refine Cj.skip rfl (Ej.back (fun _ _ h => h) (by repeat (first | exact .refl | apply DropTo.tail)) ?_); repeat (first | exact trivial | refine ⟨rfl, ?_⟩))
      | refine Cj.seq rfl ?_
      | refine Cj.region rfl ?_))
def encI (a : Int) : List Value := [.int .i64 a]
def decI : List Value → Int
  | [.int _ a] => a
  | _ => 0
theorem rowI {w : World} {A : Nat → Prop} {v : Value} {xs : List Int} : (Go.Proofs.YtkglpfdoefdhdaaW.SL.Item.row KI 3 0 v xs).p w A ↔ (Go.Proofs.YtkglpfdoefdhdaaW.SL.Item.row (Kd.raw 1) 3 0 v (xs.map encI)).p w A := row_raw (enc := encI) rfl (fun _ _ _ _ _ => Iff.rfl) (fun _ => rfl) (fun x u hu => by rw [List.mem_singleton.1 hu]; rfl)
theorem cmp_lt (a b : Int) : decide (cmpI a b < 0) = decide (a < b) := by
  unfold cmpI
  split
  · rename_i h; simp [h]
  · rename_i h
    split <;> simp <;> omega
/-- The indices are brought into the order of their minutes. -/
theorem sort_ {wd : Int} {cs : List Int} {l : List S76} (lb : Array Value) (n : Nat) (hn : n ≤ 12) (w : World) (A : Nat → Prop) (h c : Nat) (hA : (Go.Proofs.YtkglpfdoefdhdaaW.SL.Item.row KI 3 0 (.slice (some ⟨h, 0, none⟩) (rng n).length c) (rng n)).p w A)
    (hC : ∀ W, Aft A w W → ∀ i k : Nat, i < n → k < n → Calls Try.prog 121 (#[.int .i64 (i : Int), .int .i64 (k : Int)] ++ lb) W fun e w' => e = .returned (.int .i64 (cmpI (mm wd cs (nth l i z76)) (mm wd cs (nth l k z76)))) ∧ Below W.heap.size W w') :
    Calls Try.prog 83 #[.slice (some ⟨h, 0, none⟩) (rng n).length c, .func (.func 121) #[] lb] w fun e w' => e = .returned (.tuple #[]) ∧ ∃ A', (Go.Proofs.YtkglpfdoefdhdaaW.SL.Item.row KI 3 0 (.slice (some ⟨h, 0, none⟩) (rng n).length c) (ordL wd cs l n)).p w' A' ∧ (∀ k, A' k → k < w.heap.size → A k) ∧ Aft A w w' := by
  have h0 := rowI.1 hA
  have hlm : ((rng n).map encI).length = (rng n).length := List.length_map ..
  rw [← hlm] at h0 ⊢
  refine (Ins165.sortS 121 lb en121 (fun u v => cmpI (mm wd cs (nth l (decI u).toNat z76)) (mm wd cs (nth l (decI v).toNat z76))) w A h c ((rng n).map encI) h0 (fun W hW u v hu hv => ?_) (by rw [hlm, rng_len]; exact hn)).mono ?_
  · obtain ⟨a, ha, rfl⟩ := List.mem_map.1 hu
    obtain ⟨b, hb, rfl⟩ := List.mem_map.1 hv
    obtain ⟨i, hi, rfl⟩ := rng_mem ha
    obtain ⟨k, hk, rfl⟩ := rng_mem hb
    have := hC W hW i k hi hk
    simpa [decI, encI, hd1] using this
  · rintro e w' ⟨rfl, A', h1, h2, h3⟩
    refine ⟨rfl, A', rowI.2 ?_, h2, h3⟩
    rw [isort_map encI (lt := ltM wd cs l) (lt' := Ins165.ltc (fun u v => cmpI (mm wd cs (nth l (decI u).toNat z76)) (mm wd cs (nth l (decI v).toNat z76)))) (fun x y _ _ => cmp_lt _ _)] at h1
    exact h1
set_option maxHeartbeats 4000000 in
/-- MendOrder at holes that are none. -/
theorem iNo {wd ht : Int} {cs : List Int} {l : List S76} (A0 : Option Addr) (c0 : Nat) (A1 : Option Addr) (c1 : Nat) (w : World) (hrC : Kd.C (Kd.int .i64) w A0 cs.length cs) (hc : cs.length ≤ c0) (hrH : Kd.C k76 w A1 l.length l) (hcl : l.length ≤ c1) (hlb : l.length ≤ 1048576) (hg : goodH wd ht cs l = false) : Calls Try.prog 54 #[.agg #[.int .i64 wd, .int .i64 ht, .slice A0 cs.length c0], .slice A1 l.length c1] w fun e w' => ∃ v, e = .returned (.tuple #[v, .bool false]) ∧ (Kd.int .i64).R 3 w' w.heap.size (fun _ => True) v [] ∧ Below w.heap.size w w' := by
  obtain ⟨kk, hk⟩ := (iHoles wd ht cs l hlb).rounds
  rw [hg] at hk
  let Rr : Ending → World → Prop := fun e w' => ∃ v, e = .returned (.tuple #[v, .bool false]) ∧ (Kd.int .i64).R 3 w' w.heap.size (fun _ => True) v [] ∧ Below w.heap.size w w'
  refine enterW (args := [.agg #[.int .i64 wd, .int .i64 ht, .slice A0 cs.length c0], .slice A1 l.length c1]) [(fun W => Kd.C (Kd.int .i64) W A0 cs.length cs), (fun W => Kd.C k76 W A1 l.length l)] (fun p hp W hb => by
    rcases List.mem_cons.1 hp with rfl | hp
    · exact Kd.C_below hrC hb
    · rw [List.mem_singleton.1 hp]; exact Kd.C_below hrH hb) Try.func54 rfl rfl ?_
  show Cj Try.prog _ _ _ (bodyPost Try.prog Try.f54 Rr) _ _ _
  repeat (first
    | (apply gateO; first
      | refine Jl.yd (Y.mv rfl rfl) rfl rfl rfl ?_
      | refine Jl.yd (Y.asg rfl rfl) rfl rfl rfl ?_
      | refine Jl.yd (Y.ext rfl rfl rfl) rfl rfl rfl ?_
      | refine Jl.yd (Y.pickT rfl rfl rfl) rfl rfl rfl ?_
      | refine Jl.yd (Y.pickF rfl rfl rfl) rfl rfl rfl ?_
      | refine Jl.off rfl rfl rfl ?_
      | refine Jl.yd (Y.cmpF rfl rfl rfl rfl (by omega)) rfl rfl rfl ?_
      | refine Jl.yd (Y.cmpT rfl rfl rfl rfl (by omega)) rfl rfl rfl ?_
      | refine Jl.yd (Y.neqB rfl rfl rfl Try.underlying4) rfl rfl rfl ?_
      | refine Jl.yd (Y.cmp rfl rfl rfl rfl) rfl rfl rfl ?_
      | refine Jl.yd (Y.not rfl rfl) rfl rfl rfl ?_
      | refine Jl.yd (Y.arithN rfl rfl rfl rfl (by omega)) rfl rfl rfl ?_
      | refine Jl.yd (Y.arith64 rfl rfl rfl rfl) rfl rfl rfl ?_
      | refine Jl.yd (Y.loadA rfl rfl agg26 (by repeat (first | exact .head _ | refine .tail _ ?_)) (by rfl)) rfl rfl rfl ?_
      | refine Jl.yd (Y.load1 rfl rfl sc65 (by repeat (first | exact .head _ | refine .tail _ ?_)) (by rfl)) rfl rfl rfl ?_
      | refine Jl.yd (Y.lenS Try.underlying65 rfl rfl rfl) rfl rfl rfl ?_
      | refine Jl.yd (Y.lenS Try.underlying24 rfl rfl rfl) rfl rfl rfl ?_
      | refine Jl.box (zs := [.int .i64 wd, .int .i64 ht, .slice A0 cs.length c0]) rfl rfl rfl rfl rfl (by rfl) (fun gc => ?_)
      | refine Jl.box (zs := [.slice A1 l.length c1]) rfl rfl rfl rfl rfl (by rfl) (fun gh => ?_)
      | refine Jl.call1 (v := .bool false) rfl rfl rfl rfl en63 rfl (fun w hW => by with_reducible exact impl_AreHoles.calls kk wd ht A0 c0 cs A1 c1 l false w (hW.fact (p := (fun W => Kd.C (Kd.int .i64) W A0 cs.length cs)) (by repeat (first | exact memH | refine memT ?_))) hc (hW.fact (p := (fun W => Kd.C k76 W A1 l.length l)) (by repeat (first | exact memH | refine memT ?_))) hcl hk) ?_
      | refine Jl.splitG rfl rfl (fun h => ?_) (fun h => ?_))
    | (apply gateE; first
      | refine Jl.nil (Ej.go ?_ (fun _ _ h => h))
      | (refine Jl.nil (Ej.back (fun _ _ h => h) (by repeat (first | exact .refl | apply DropTo.tail)) ?_); repeat (first | exact trivial | refine ⟨rfl, ?_⟩)))
    | (apply gateC; first
      | refine Cj.ret rfl (Ej.out2 (P := Try.prog) (fn := Try.f54) (R := Rr) (fun _ _ h => h) rfl rfl rfl (fun w' hW => ⟨_, rfl, Kd.R_nil _ _ _ _ _, hW.below⟩))
      | refine Cj.condF rfl rfl (Cj.skip rfl (Ej.go ?_ (fun _ _ h => h)))
      | (refine Cj.condF rfl rfl (Cj.skip rfl (Ej.back (fun _ _ h => h) (by repeat (first | exact .refl | apply DropTo.tail)) ?_)); repeat (first | exact trivial | refine ⟨rfl, ?_⟩))
      | refine Cj.condF rfl rfl ?_
      | refine Cj.condT rfl rfl ?_
      | refine Cj.exit rfl (Ej.go ?_ (fun _ _ h => h))
      | refine Cj.cond rfl rfl (fun h => ?_) (fun h => ?_)
      | refine Cj.skip rfl (Ej.go ?_ (fun _ _ h => h))
      | (refine Cj.skip rfl (Ej.back (fun _ _ h => h) (by repeat (first | exact .refl | apply DropTo.tail)) ?_); repeat (first | exact trivial | refine ⟨rfl, ?_⟩))
      | refine Cj.seq rfl ?_
      | refine Cj.region rfl ?_))
set_option maxHeartbeats 8000000 in
/-- MendOrder at holes. -/
theorem iYes {wd ht : Int} {cs : List Int} {l : List S76} (A0 : Option Addr) (c0 : Nat) (A1 : Option Addr) (c1 : Nat) (w : World) (hrC : Kd.C (Kd.int .i64) w A0 cs.length cs) (hc : cs.length ≤ c0) (hrH : Kd.C k76 w A1 l.length l) (hcl : l.length ≤ c1) (hlb : l.length ≤ 1048576) (hg : goodH wd ht cs l = true) : Calls Try.prog 54 #[.agg #[.int .i64 wd, .int .i64 ht, .slice A0 cs.length c0], .slice A1 l.length c1] w fun e w' => ∃ v, e = .returned (.tuple #[v, .bool true]) ∧ (Kd.int .i64).R 3 w' w.heap.size (fun _ => True) v (ordL wd cs l l.length) ∧ Below w.heap.size w w' := by
  obtain ⟨kk, hk⟩ := (iHoles wd ht cs l hlb).rounds
  rw [hg] at hk
  obtain ⟨hg', hl8, ho⟩ := goodHole hg
  let Rr : Ending → World → Prop := fun e w' => ∃ v, e = .returned (.tuple #[v, .bool true]) ∧ (Kd.int .i64).R 3 w' w.heap.size (fun _ => True) v (ordL wd cs l l.length) ∧ Below w.heap.size w w'
  refine enterW (args := [.agg #[.int .i64 wd, .int .i64 ht, .slice A0 cs.length c0], .slice A1 l.length c1]) [(fun W => Kd.C (Kd.int .i64) W A0 cs.length cs), (fun W => Kd.C k76 W A1 l.length l)] (fun p hp W hb => by
    rcases List.mem_cons.1 hp with rfl | hp
    · exact Kd.C_below hrC hb
    · rw [List.mem_singleton.1 hp]; exact Kd.C_below hrH hb) Try.func54 rfl rfl ?_
  show Cj Try.prog _ _ _ (bodyPost Try.prog Try.f54 Rr) _ _ _
  repeat (first
    | (apply gateO; first
      | refine Jl.yd (Y.mv rfl rfl) rfl rfl rfl ?_
      | refine Jl.yd (Y.asg rfl rfl) rfl rfl rfl ?_
      | refine Jl.yd (Y.ext rfl rfl rfl) rfl rfl rfl ?_
      | refine Jl.yd (Y.pickT rfl rfl rfl) rfl rfl rfl ?_
      | refine Jl.yd (Y.pickF rfl rfl rfl) rfl rfl rfl ?_
      | refine Jl.off rfl rfl rfl ?_
      | refine Jl.yd (Y.cmpF rfl rfl rfl rfl (by omega)) rfl rfl rfl ?_
      | refine Jl.yd (Y.cmpT rfl rfl rfl rfl (by omega)) rfl rfl rfl ?_
      | refine Jl.yd (Y.neqB rfl rfl rfl Try.underlying4) rfl rfl rfl ?_
      | refine Jl.yd (Y.cmp rfl rfl rfl rfl) rfl rfl rfl ?_
      | refine Jl.yd (Y.not rfl rfl) rfl rfl rfl ?_
      | refine Jl.yd (Y.arithN rfl rfl rfl rfl (by omega)) rfl rfl rfl ?_
      | refine Jl.yd (Y.arith64 rfl rfl rfl rfl) rfl rfl rfl ?_
      | refine Jl.yd (Y.loadA rfl rfl agg26 (by repeat (first | exact .head _ | refine .tail _ ?_)) (by rfl)) rfl rfl rfl ?_
      | refine Jl.yd (Y.load1 rfl rfl sc65 (by repeat (first | exact .head _ | refine .tail _ ?_)) (by rfl)) rfl rfl rfl ?_
      | refine Jl.yd (Y.lenS Try.underlying65 rfl rfl rfl) rfl rfl rfl ?_
      | refine Jl.yd (Y.lenS Try.underlying24 rfl rfl rfl) rfl rfl rfl ?_
      | refine Jl.box (zs := [.int .i64 wd, .int .i64 ht, .slice A0 cs.length c0]) rfl rfl rfl rfl rfl (by rfl) (fun gc => ?_)
      | refine Jl.box (zs := [.slice A1 l.length c1]) rfl rfl rfl rfl rfl (by rfl) (fun gh => ?_)
      | refine Jl.call1 (v := .bool true) rfl rfl rfl rfl en63 rfl (fun w hW => by with_reducible exact impl_AreHoles.calls kk wd ht A0 c0 cs A1 c1 l true w (hW.fact (p := (fun W => Kd.C (Kd.int .i64) W A0 cs.length cs)) (by repeat (first | exact memH | refine memT ?_))) hc (hW.fact (p := (fun W => Kd.C k76 W A1 l.length l)) (by repeat (first | exact memH | refine memT ?_))) hcl hk) ?_
      | refine Jl.lit0 KI rfl rfl rfl rfl el24 (fun g0 => ?_)
      | refine Jl.splitG rfl rfl (fun h => ?_) (fun h => ?_))
    | (apply gateE; first
      | refine Jl.nil (Ej.go ?_ (fun _ _ h => h))
      | (refine Jl.nil (Ej.back (fun _ _ h => h) (by repeat (first | exact .refl | apply DropTo.tail)) ?_); repeat (first | exact trivial | refine ⟨rfl, ?_⟩)))
    | (apply gateC; first
      | refine Cj.block rfl ?_
      | refine Cj.condF rfl rfl (Cj.skip rfl (Ej.go ?_ (fun _ _ h => h)))
      | (refine Cj.condF rfl rfl (Cj.skip rfl (Ej.back (fun _ _ h => h) (by repeat (first | exact .refl | apply DropTo.tail)) ?_)); repeat (first | exact trivial | refine ⟨rfl, ?_⟩))
      | refine Cj.condF rfl rfl ?_
      | refine Cj.condT rfl rfl ?_
      | refine Cj.exit rfl (Ej.go ?_ (fun _ _ h => h))
      | refine Cj.cond rfl rfl (fun h => ?_) (fun h => ?_)
      | refine Cj.skip rfl (Ej.go ?_ (fun _ _ h => h))
      | (refine Cj.skip rfl (Ej.back (fun _ _ h => h) (by repeat (first | exact .refl | apply DropTo.tail)) ?_); repeat (first | exact trivial | refine ⟨rfl, ?_⟩))
      | refine Cj.seq rfl ?_
      | refine Cj.region rfl ?_))
  refine Cj.loopP (ι := Nat × Option Addr × Nat) (fun q => q.1 ≤ l.length ∧ (q.1 = 0 → q.2.1 = some ⟨g0, 0, none⟩) ∧ (rng q.1).length ≤ q.2.2) (fun q => [(2, .pointer (some ⟨gc, 0, none⟩)), (3, .pointer (some ⟨gh, 0, none⟩)), (6, .slice q.2.1 (rng q.1).length q.2.2), (14, .int .i64 (l.length : Int)), (15, .int .i64 (q.1 : Int))]) (fun q => [.row KI 3 0 (.slice q.2.1 (rng q.1).length q.2.2) (rng q.1), .box gc 26 [.int .i64 wd, .int .i64 ht, .slice A0 cs.length c0], .box gh 65 [.slice A1 l.length c1]]) (fun _ => [(fun W => Kd.C (Kd.int .i64) W A0 cs.length cs), (fun W => Kd.C k76 W A1 l.length l)]) (fun q => l.length - q.1) rfl (0, some ⟨g0, 0, none⟩, 0) ⟨Nat.zero_le _, fun _ => rfl, Nat.le_refl _⟩ ⟨rfl, rfl, rfl, rfl, rfl, trivial⟩ (by repeat (first | exact .nil | refine Pick.cons (by repeat (first | exact .z | apply OutAt.s)) ?_)) (fun p hp => hp) (fun q hq => ?_)
  obtain ⟨i, A, c⟩ := q
  dsimp only at hq ⊢
  obtain ⟨hi, hA0, hic⟩ := hq
  by_cases hlt : i < l.length
  · repeat (first
    | (apply gateO; first
      | refine Jl.yd (Y.mv rfl rfl) rfl rfl rfl ?_
      | refine Jl.yd (Y.asg rfl rfl) rfl rfl rfl ?_
      | refine Jl.yd (Y.ext rfl rfl rfl) rfl rfl rfl ?_
      | refine Jl.yd (Y.pickT rfl rfl rfl) rfl rfl rfl ?_
      | refine Jl.yd (Y.pickF rfl rfl rfl) rfl rfl rfl ?_
      | refine Jl.off rfl rfl rfl ?_
      | refine Jl.yd (Y.cmpF rfl rfl rfl rfl (by omega)) rfl rfl rfl ?_
      | refine Jl.yd (Y.cmpT rfl rfl rfl rfl (by omega)) rfl rfl rfl ?_
      | refine Jl.yd (Y.neqB rfl rfl rfl Try.underlying4) rfl rfl rfl ?_
      | refine Jl.yd (Y.cmp rfl rfl rfl rfl) rfl rfl rfl ?_
      | refine Jl.yd (Y.not rfl rfl) rfl rfl rfl ?_
      | refine Jl.yd (Y.arithN rfl rfl rfl rfl (by omega)) rfl rfl rfl ?_
      | refine Jl.yd (Y.arith64 rfl rfl rfl rfl) rfl rfl rfl ?_
      | refine Jl.yd (Y.loadA rfl rfl agg26 (by repeat (first | exact .head _ | refine .tail _ ?_)) (by rfl)) rfl rfl rfl ?_
      | refine Jl.yd (Y.load1 rfl rfl sc65 (by repeat (first | exact .head _ | refine .tail _ ?_)) (by rfl)) rfl rfl rfl ?_
      | refine Jl.yd (Y.lenS Try.underlying65 rfl rfl rfl) rfl rfl rfl ?_
      | refine Jl.yd (Y.lenS Try.underlying24 rfl rfl rfl) rfl rfl rfl ?_
      | refine Jl.lit1 rfl rfl rfl rfl rfl el24 zero3 rfl (fun g1 => ?_)
      | refine Jl.app (dk := KI) (xs := rng i) (i : Int) (fun _ => False) rfl rfl rfl rfl rfl rfl ap24 (by repeat (first | exact .head _ | refine .tail _ ?_)) rfl (fun w => rfl) (fun u hu => by rw [List.mem_singleton.1 hu]; rfl) (by repeat (first | exact .z | apply OutAt.s)) (by rw [rng_len]; omega) (by rw [rng_len]; omega) (fun A9 c9 h9 => ?_)
      | refine Jl.splitG rfl rfl (fun h => ?_) (fun h => ?_))
    | (apply gateE; first
      | refine Jl.nil (Ej.go ?_ (fun _ _ h => h))
      | (refine Jl.nil (Ej.back (fun _ _ h => h) (by repeat (first | exact .refl | apply DropTo.tail)) ?_); repeat (first | exact trivial | refine ⟨rfl, ?_⟩)))
    | (apply gateC; first
      | refine Cj.block rfl ?_
      | refine Cj.condF rfl rfl (Cj.skip rfl (Ej.go ?_ (fun _ _ h => h)))
      | (refine Cj.condF rfl rfl (Cj.skip rfl (Ej.back (fun _ _ h => h) (by repeat (first | exact .refl | apply DropTo.tail)) ?_)); repeat (first | exact trivial | refine ⟨rfl, ?_⟩))
      | refine Cj.condF rfl rfl ?_
      | refine Cj.condT rfl rfl ?_
      | refine Cj.exit rfl (Ej.go ?_ (fun _ _ h => h))
      | refine Cj.cond rfl rfl (fun h => ?_) (fun h => ?_)
      | refine Cj.skip rfl (Ej.go ?_ (fun _ _ h => h))
      | (refine Cj.skip rfl (Ej.back (fun _ _ h => h) (by repeat (first | exact .refl | apply DropTo.tail)) ?_); repeat (first | exact trivial | refine ⟨rfl, ?_⟩))
      | refine Cj.seq rfl ?_
      | refine Cj.region rfl ?_))
    refine Jl.nil (Ej.cutP (ι := Nat × Option Addr × Nat) _ _ _ _ (fun _ _ h => h) (i + 1, A9, c9) ⟨⟨by dsimp only; omega, fun h => absurd h (by dsimp only; omega), by dsimp only; rw [rng_succ, List.length_append]; exact h9⟩, by dsimp only; omega⟩ ⟨rfl, rfl, by dsimp only; rw [rng_succ]; rfl, rfl, rfl, trivial⟩ (by dsimp only; rw [rng_succ]; exact (by repeat (first | exact .nil | refine Pick.cons (by repeat (first | exact .z | apply OutAt.s)) ?_))) (fun p hp => hp))
  · obtain rfl : i = l.length := by omega
    refine Cj.ws (ι := Nat) (fun hd => A = some ⟨hd, 0, none⟩) (fun _ => [.row KI 3 0 (.slice A (rng l.length).length c) (rng l.length), .box gc 26 [.int .i64 wd, .int .i64 ht, .slice A0 cs.length c0], .box gh 65 [.slice A1 l.length c1]]) (fun _ => [(fun W => Kd.C (Kd.int .i64) W A0 cs.length cs), (fun W => Kd.C k76 W A1 l.length l)]) (fun w' hW => by
      by_cases h0 : l.length = 0
      · exact ⟨g0, hA0 h0, hW⟩
      obtain ⟨S, hR, _⟩ := hW.item (i := .row KI 3 0 (.slice A (rng l.length).length c) (rng l.length)) memH
      rcases row_form hR with ⟨c, e, e0⟩ | ⟨hd, c, e⟩
      · have := rng_len l.length; rw [e0] at this; exact absurd this.symm h0
      · injection e with e1
        exact ⟨hd, e1, hW⟩) (fun hd hA => ?_)
    subst hA
    repeat (first
    | (apply gateO; first
      | refine Jl.yd (Y.mv rfl rfl) rfl rfl rfl ?_
      | refine Jl.yd (Y.asg rfl rfl) rfl rfl rfl ?_
      | refine Jl.yd (Y.ext rfl rfl rfl) rfl rfl rfl ?_
      | refine Jl.yd (Y.pickT rfl rfl rfl) rfl rfl rfl ?_
      | refine Jl.yd (Y.pickF rfl rfl rfl) rfl rfl rfl ?_
      | refine Jl.off rfl rfl rfl ?_
      | refine Jl.yd (Y.cmpF rfl rfl rfl rfl (by omega)) rfl rfl rfl ?_
      | refine Jl.yd (Y.cmpT rfl rfl rfl rfl (by omega)) rfl rfl rfl ?_
      | refine Jl.yd (Y.neqB rfl rfl rfl Try.underlying4) rfl rfl rfl ?_
      | refine Jl.yd (Y.cmp rfl rfl rfl rfl) rfl rfl rfl ?_
      | refine Jl.yd (Y.not rfl rfl) rfl rfl rfl ?_
      | refine Jl.yd (Y.arithN rfl rfl rfl rfl (by omega)) rfl rfl rfl ?_
      | refine Jl.yd (Y.arith64 rfl rfl rfl rfl) rfl rfl rfl ?_
      | refine Jl.yd (Y.loadA rfl rfl agg26 (by repeat (first | exact .head _ | refine .tail _ ?_)) (by rfl)) rfl rfl rfl ?_
      | refine Jl.yd (Y.load1 rfl rfl sc65 (by repeat (first | exact .head _ | refine .tail _ ?_)) (by rfl)) rfl rfl rfl ?_
      | refine Jl.yd (Y.lenS Try.underlying65 rfl rfl rfl) rfl rfl rfl ?_
      | refine Jl.yd (Y.lenS Try.underlying24 rfl rfl rfl) rfl rfl rfl ?_
      | refine Jl.yd (Y.mkFn2 rfl rfl rfl) rfl rfl rfl ?_
      | refine Jl.callX (ι := Unit) (fun _ => True) (fun _ => .tuple #[]) (.row KI 3 0 (.slice (some ⟨hd, 0, none⟩) (rng l.length).length c) (rng l.length)) (fun _ => .row KI 3 0 (.slice (some ⟨hd, 0, none⟩) (rng l.length).length c) (ordL wd cs l l.length)) rfl rfl rfl rfl en83 rfl (by repeat (first | exact .z | apply OutAt.s)) (fun w A hA hB => (sort_ (wd := wd) (cs := cs) (l := l) #[.pointer (some ⟨gc, 0, none⟩), .pointer (some ⟨gh, 0, none⟩)] l.length (by omega) w A hd c hA (fun W hW i k hi hk => clo hg' ho A0 c0 A1 c1 gc gh W hc (Box_at (hB W hW) (by repeat (first | exact memH | refine memT ?_))) (Box_at (hB W hW) (by repeat (first | exact memH | refine memT ?_))) ((hB W hW).fact (p := (fun W => Kd.C (Kd.int .i64) W A0 cs.length cs)) (by repeat (first | exact memH | refine memT ?_))) ((hB W hW).fact (p := (fun W => Kd.C k76 W A1 l.length l)) (by repeat (first | exact memH | refine memT ?_))) i k hi hk (by omega))).mono (fun e w' hh => ⟨(), trivial, hh.1, hh.2⟩)) (fun _ _ => ?_)
      | refine Jl.splitG rfl rfl (fun h => ?_) (fun h => ?_))
    | (apply gateE; first
      | refine Jl.nil (Ej.go ?_ (fun _ _ h => h))
      | (refine Jl.nil (Ej.back (fun _ _ h => h) (by repeat (first | exact .refl | apply DropTo.tail)) ?_); repeat (first | exact trivial | refine ⟨rfl, ?_⟩)))
    | (apply gateC; first
      | refine Cj.block rfl ?_
      | refine Cj.ret rfl (Ej.out2 (P := Try.prog) (fn := Try.f54) (R := Rr) (fun _ _ h => h) rfl rfl rfl (fun w' hW => ⟨_, rfl, outI hW (by repeat (first | exact .nil | refine Pick.cons (by repeat (first | exact .z | apply OutAt.s)) ?_)), hW.below⟩))
      | refine Cj.condF rfl rfl (Cj.skip rfl (Ej.go ?_ (fun _ _ h => h)))
      | (refine Cj.condF rfl rfl (Cj.skip rfl (Ej.back (fun _ _ h => h) (by repeat (first | exact .refl | apply DropTo.tail)) ?_)); repeat (first | exact trivial | refine ⟨rfl, ?_⟩))
      | refine Cj.condF rfl rfl ?_
      | refine Cj.condT rfl rfl ?_
      | refine Cj.exit rfl (Ej.go ?_ (fun _ _ h => h))
      | refine Cj.cond rfl rfl (fun h => ?_) (fun h => ?_)
      | refine Cj.skip rfl (Ej.go ?_ (fun _ _ h => h))
      | (refine Cj.skip rfl (Ej.back (fun _ _ h => h) (by repeat (first | exact .refl | apply DropTo.tail)) ?_); repeat (first | exact trivial | refine ⟨rfl, ?_⟩))
      | refine Cj.seq rfl ?_
      | refine Cj.region rfl ?_))
end MO
end Go.Proofs.Ytkglpfdoefdhdaa.WK

namespace Go.Proofs.Ytkglpfdoefdhdaa.WK
open Go Go.RowKit Go.Proofs.Ytkglpfdoefdhdaa.Q Go.Proofs.Ytkglpfdoefdhdaa.M Go.Proofs.YtkglpfdoefdhdaaW.PrintWords Go.Proofs.YtkglpfdoefdhdaaW.SL
open Go.Proofs.YtkglpfdoefdhdaaW.Pl (nth nth_get)
open Go.Proofs.Ytkglpfdoefdhdaa.M.MN (mm lostL lostE)
set_option linter.unusedSimpArgs false
set_option linter.unusedVariables false
set_option maxRecDepth 100000
namespace MO
theorem en123 : Ent Try.prog 123 := ⟨enters_of Try.func123 (by kernel_rfl) rfl⟩
theorem en120 : Ent Try.prog 120 := ⟨enters_of Try.func120 (by kernel_rfl) rfl⟩
theorem en110 : Ent Try.prog 110 := ⟨enters_of Try.func110 (by kernel_rfl) rfl⟩
theorem minS {wd ht : Int} {cs : List Int} {x : S76} (hg : goodC wd ht cs = true) (hx : okH wd ht x = true) (A0 : Option Addr) (c0 : Nat) (w : World) (hr : Kd.C (Kd.int .i64) w A0 cs.length cs) (hc : cs.length ≤ c0) : Calls Try.prog 123 #[.agg #[.int .i64 wd, .int .i64 ht, .slice A0 cs.length c0], .agg #[.int .i64 x.f0, .int .i64 x.f1, .int .i64 x.f2, .int .i64 x.f3]] w fun e w' => e = .returned (.int .i64 (mm wd cs x)) ∧ Below w.heap.size w w' := by
  obtain ⟨_, e1, _⟩ := lostE hg hx
  obtain ⟨k, hk⟩ := e1.rounds
  exact spec_l23Minutes.calls k wd ht A0 c0 cs x.f0 x.f1 x.f2 x.f3 (mm wd cs x) w hr hc hk
set_option maxHeartbeats 8000000 in
/-- The reference's order of the holes. -/
theorem order_ {wd ht : Int} {cs : List Int} {l : List S76} (A0 : Option Addr) (c0 : Nat) (A1 : Option Addr) (c1 : Nat) (w : World) (hrC : Kd.C (Kd.int .i64) w A0 cs.length cs) (hc : cs.length ≤ c0) (hrH : Kd.C k76 w A1 l.length l) (hcl : l.length ≤ c1) (hg : goodH wd ht cs l = true) : Calls Try.prog 120 #[.agg #[.int .i64 wd, .int .i64 ht, .slice A0 cs.length c0], .slice A1 l.length c1] w fun e w' => ∃ v, e = .returned v ∧ (Kd.int .i64).R 3 w' w.heap.size (fun _ => True) v (ordL wd cs l l.length) ∧ Below w.heap.size w w' := by
  obtain ⟨hg', hl8, ho⟩ := goodHole hg
  let Rr : Ending → World → Prop := fun e w' => ∃ v, e = .returned v ∧ (Kd.int .i64).R 3 w' w.heap.size (fun _ => True) v (ordL wd cs l l.length) ∧ Below w.heap.size w w'
  refine enterW (args := [.agg #[.int .i64 wd, .int .i64 ht, .slice A0 cs.length c0], .slice A1 l.length c1]) [(fun W => Kd.C (Kd.int .i64) W A0 cs.length cs), (fun W => Kd.C k76 W A1 l.length l)] (fun p hp W hb => by
    rcases List.mem_cons.1 hp with rfl | hp
    · exact Kd.C_below hrC hb
    · rw [List.mem_singleton.1 hp]; exact Kd.C_below hrH hb) Try.func120 rfl rfl ?_
  show Cj Try.prog _ _ _ (bodyPost Try.prog Try.f120 Rr) _ _ _
  repeat (first
    | (apply gateO; first
      | refine Jl.yd (Y.mv rfl rfl) rfl rfl rfl ?_
      | refine Jl.yd (Y.asg rfl rfl) rfl rfl rfl ?_
      | refine Jl.yd (Y.ext rfl rfl rfl) rfl rfl rfl ?_
      | refine Jl.yd (Y.pickT rfl rfl rfl) rfl rfl rfl ?_
      | refine Jl.yd (Y.pickF rfl rfl rfl) rfl rfl rfl ?_
      | refine Jl.off rfl rfl rfl ?_
      | refine Jl.yd (Y.cmpF rfl rfl rfl rfl (by omega)) rfl rfl rfl ?_
      | refine Jl.yd (Y.cmpT rfl rfl rfl rfl (by omega)) rfl rfl rfl ?_
      | refine Jl.yd (Y.neqB rfl rfl rfl Try.underlying4) rfl rfl rfl ?_
      | refine Jl.yd (Y.cmp rfl rfl rfl rfl) rfl rfl rfl ?_
      | refine Jl.yd (Y.not rfl rfl) rfl rfl rfl ?_
      | refine Jl.yd (Y.arithN rfl rfl rfl rfl (by omega)) rfl rfl rfl ?_
      | refine Jl.yd (Y.arith64 rfl rfl rfl rfl) rfl rfl rfl ?_
      | refine Jl.yd (Y.loadA rfl rfl agg26 (by repeat (first | exact .head _ | refine .tail _ ?_)) (by rfl)) rfl rfl rfl ?_
      | refine Jl.yd (Y.lenS Try.underlying65 rfl rfl rfl) rfl rfl rfl ?_
      | refine Jl.yd (Y.lenS Try.underlying24 rfl rfl rfl) rfl rfl rfl ?_
      | refine Jl.box (zs := [.int .i64 wd, .int .i64 ht, .slice A0 cs.length c0]) rfl rfl rfl rfl rfl (by rfl) (fun gc => ?_)
      | refine Jl.lit0 KI rfl rfl rfl rfl el24 (fun g0 => ?_)
      | refine Jl.splitG rfl rfl (fun h => ?_) (fun h => ?_))
    | (apply gateE; first
      | refine Jl.nil (Ej.go ?_ (fun _ _ h => h))
      | (refine Jl.nil (Ej.back (fun _ _ h => h) (by repeat (first | exact .refl | apply DropTo.tail)) ?_); repeat (first | exact trivial | refine ⟨rfl, ?_⟩)))
    | (apply gateC; first
      | refine Cj.block rfl ?_
      | refine Cj.condF rfl rfl (Cj.skip rfl (Ej.go ?_ (fun _ _ h => h)))
      | (refine Cj.condF rfl rfl (Cj.skip rfl (Ej.back (fun _ _ h => h) (by repeat (first | exact .refl | apply DropTo.tail)) ?_)); repeat (first | exact trivial | refine ⟨rfl, ?_⟩))
      | refine Cj.condF rfl rfl ?_
      | refine Cj.condT rfl rfl ?_
      | refine Cj.exit rfl (Ej.go ?_ (fun _ _ h => h))
      | refine Cj.cond rfl rfl (fun h => ?_) (fun h => ?_)
      | refine Cj.skip rfl (Ej.go ?_ (fun _ _ h => h))
      | (refine Cj.skip rfl (Ej.back (fun _ _ h => h) (by repeat (first | exact .refl | apply DropTo.tail)) ?_); repeat (first | exact trivial | refine ⟨rfl, ?_⟩))
      | refine Cj.seq rfl ?_
      | refine Cj.region rfl ?_))
  refine Cj.loopP (ι := Nat × Option Addr × Nat × List Int) (fun q => q.1 ≤ l.length ∧ q.2.2.2 = ordL wd cs l q.1 ∧ q.2.2.2.length ≤ q.2.2.1) (fun q => [(1, .slice A1 l.length c1), (2, .pointer (some ⟨gc, 0, none⟩)), (5, .slice q.2.1 (q.2.2.2 : List Int).length q.2.2.1), (6, .int .i64 (q.1 : Int))]) (fun q => [.row KI 3 0 (.slice q.2.1 (q.2.2.2 : List Int).length q.2.2.1) q.2.2.2, .box gc 26 [.int .i64 wd, .int .i64 ht, .slice A0 cs.length c0]]) (fun _ => [(fun W => Kd.C (Kd.int .i64) W A0 cs.length cs), (fun W => Kd.C k76 W A1 l.length l)]) (fun q => l.length - q.1) rfl (0, some ⟨g0, 0, none⟩, 0, []) ⟨Nat.zero_le _, rfl, Nat.zero_le _⟩ ⟨rfl, rfl, rfl, rfl, trivial⟩ (by repeat (first | exact .nil | refine Pick.cons (by repeat (first | exact .z | apply OutAt.s)) ?_)) (fun p hp => hp) (fun q hq => ?_)
  obtain ⟨i, A, c, s⟩ := q
  dsimp only at hq ⊢
  obtain ⟨hi, hs, hsc⟩ := hq
  have hsl : s.length = i := by rw [hs, ordL_len]
  by_cases hlt : i < l.length
  · obtain ⟨ad, rfl⟩ : ∃ ad, A1 = some ad := by
      obtain ⟨ad, e, _⟩ := hrH.2.2 (by omega)
      exact ⟨ad, e⟩
    obtain ⟨x, hx⟩ : ∃ x, nth l i z76 = x := ⟨_, rfl⟩
    have hxo : okH wd ht x = true := hx ▸ ho i hlt
    have hux : ([.int .i64 (l.getD ((i : Int)).toNat z76).f0, .int .i64 (l.getD ((i : Int)).toNat z76).f1, .int .i64 (l.getD ((i : Int)).toNat z76).f2, .int .i64 (l.getD ((i : Int)).toNat z76).f3] : List Value) = [.int .i64 x.f0, .int .i64 x.f1, .int .i64 x.f2, .int .i64 x.f3] := by
      have hx2 : l.getD i z76 = x := hx
      rw [Int.toNat_natCast, hx2]
    have hE : ordL wd cs l (i + 1) = insR (ltM wd cs l) s (i : Int) := by rw [ordL_succ, hs]
    refine Cj.ws (ι := Unit) (fun _ => s.length ≠ 0 → ∃ ad, A = some ad) (fun _ => [.box gc 26 [.int .i64 wd, .int .i64 ht, .slice A0 cs.length c0]]) (fun _ => [(fun W => KI.C W A s.length s), (fun W => Kd.C (Kd.int .i64) W A0 cs.length cs), (fun W => Kd.C k76 W (some ad) l.length l)]) (fun w' hW => ⟨(), (fun h0 => by
            obtain ⟨ad, e, _⟩ := (hW.rowC memH).2.2 (by omega)
            exact ⟨ad, e⟩), (hW.freeze (n := 0) rfl (p := (fun W => KI.C W A s.length s)) (fun W A' hA' => (Kd.R_reads' hA'.1).2.2))⟩) (fun _ hAn => ?_)
    repeat (first
        | (apply gateO; first
          | refine Jl.yd (Y.mv rfl rfl) rfl rfl rfl ?_
          | refine Jl.yd (Y.asg rfl rfl) rfl rfl rfl ?_
          | refine Jl.yd (Y.ext rfl rfl rfl) rfl rfl rfl ?_
          | refine Jl.yd (Y.pickT rfl rfl rfl) rfl rfl rfl ?_
          | refine Jl.yd (Y.pickF rfl rfl rfl) rfl rfl rfl ?_
          | refine Jl.off rfl rfl rfl ?_
          | refine Jl.yd (Y.cmpF rfl rfl rfl rfl (by omega)) rfl rfl rfl ?_
          | refine Jl.yd (Y.cmpT rfl rfl rfl rfl (by omega)) rfl rfl rfl ?_
          | refine Jl.yd (Y.neqB rfl rfl rfl Try.underlying4) rfl rfl rfl ?_
          | refine Jl.yd (Y.cmp rfl rfl rfl rfl) rfl rfl rfl ?_
          | refine Jl.yd (Y.not rfl rfl) rfl rfl rfl ?_
          | refine Jl.yd (Y.arithN rfl rfl rfl rfl (by omega)) rfl rfl rfl ?_
          | refine Jl.yd (Y.arith64 rfl rfl rfl rfl) rfl rfl rfl ?_
          | refine Jl.yd (Y.loadA rfl rfl agg26 (by repeat (first | exact .head _ | refine .tail _ ?_)) (by rfl)) rfl rfl rfl ?_
          | refine Jl.yd (Y.lenS Try.underlying65 rfl rfl rfl) rfl rfl rfl ?_
          | refine Jl.yd (Y.lenS Try.underlying24 rfl rfl rfl) rfl rfl rfl ?_
          | refine Jl.splitG rfl rfl (fun h => ?_) (fun h => ?_))
        | (apply gateE; first
          | refine Jl.nil (Ej.go ?_ (fun _ _ h => h))
          | (refine Jl.nil (Ej.back (fun _ _ h => h) (by repeat (first | exact .refl | apply DropTo.tail)) ?_); repeat (first | exact trivial | refine ⟨rfl, ?_⟩)))
        | (apply gateC; first
          | refine Cj.block rfl ?_
          | refine Cj.condF rfl rfl (Cj.skip rfl (Ej.go ?_ (fun _ _ h => h)))
          | (refine Cj.condF rfl rfl (Cj.skip rfl (Ej.back (fun _ _ h => h) (by repeat (first | exact .refl | apply DropTo.tail)) ?_)); repeat (first | exact trivial | refine ⟨rfl, ?_⟩))
          | refine Cj.condF rfl rfl ?_
          | refine Cj.condT rfl rfl ?_
          | refine Cj.exit rfl (Ej.go ?_ (fun _ _ h => h))
          | refine Cj.cond rfl rfl (fun h => ?_) (fun h => ?_)
          | refine Cj.skip rfl (Ej.go ?_ (fun _ _ h => h))
          | (refine Cj.skip rfl (Ej.back (fun _ _ h => h) (by repeat (first | exact .refl | apply DropTo.tail)) ?_); repeat (first | exact trivial | refine ⟨rfl, ?_⟩))
          | refine Cj.seq rfl ?_
          | refine Cj.region rfl ?_))
    refine Cj.loopP (ι := Nat) (fun q => q ≤ s.length ∧ goI (ltM wd cs l) (i : Int) (s.take q).reverse (s.drop q) = insR (ltM wd cs l) s (i : Int)) (fun q => [(1, .slice (some ad) l.length c1), (2, .pointer (some ⟨gc, 0, none⟩)), (5, .slice A (s : List Int).length c), (6, .int .i64 (i : Int)), (7, .int .i64 (q : Int))]) (fun _ => [.box gc 26 [.int .i64 wd, .int .i64 ht, .slice A0 cs.length c0]]) (fun _ => [(fun W => KI.C W A s.length s), (fun W => Kd.C (Kd.int .i64) W A0 cs.length cs), (fun W => Kd.C k76 W (some ad) l.length l)]) (fun q => q) rfl s.length ⟨Nat.le_refl _, by rw [List.take_length, List.drop_length]; rfl⟩ ⟨rfl, rfl, rfl, rfl, rfl, trivial⟩ (by repeat (first | exact .nil | refine Pick.cons (by repeat (first | exact .z | apply OutAt.s)) ?_)) (fun p hp => hp) (fun k hk2 => ?_)
    try dsimp only at hk2 ⊢
    obtain ⟨hks, hgo⟩ := hk2
    rcases Nat.eq_zero_or_pos k with hk0 | hk0
    · have fin : (([] ++ s.take k) ++ [(i : Int)]) ++ s.drop k = ordL wd cs l (i + 1) := by
        rw [hE, ← hgo, hk0]; simp [goI]
      refine Cj.ws (ι := Unit) (fun _ => True) (fun _ => [.box gc 26 [.int .i64 wd, .int .i64 ht, .slice A0 cs.length c0]]) (fun _ => [(fun W => KI.C W A (s.take k).length (s.take k)), (fun W => KI.C W (if c = ((k : Int)).toNat then A else Option.map (fun x => x.add (((k : Int)).toNat * 1)) A) (s.drop k).length (s.drop k)), (fun W => KI.C W A s.length s), (fun W => Kd.C (Kd.int .i64) W A0 cs.length cs), (fun W => Kd.C k76 W (some ad) l.length l)]) (fun w' hW => ⟨(), trivial, ((hW.both (p := (fun W => KI.C W A s.length s)) (q := (fun W => KI.C W A s.length s)) (r := (fun W => KI.C W (if c = ((k : Int)).toNat then A else Option.map (fun x => x.add (((k : Int)).toNat * 1)) A) (s.drop k).length (s.drop k))) memH memH (fun W h _ => by rw [Int.toNat_natCast]; exact Kd.C_drop h hks hsc)).both (p := (fun W => KI.C W A s.length s)) (q := (fun W => KI.C W A s.length s)) (r := (fun W => KI.C W A (s.take k).length (s.take k))) (memT memH) (memT memH) (fun W h _ => Kd.C_take h hks))⟩) (fun _ _ => ?_)
      repeat (first
          | (apply gateO; first
            | refine Jl.yd (Y.mv rfl rfl) rfl rfl rfl ?_
            | refine Jl.yd (Y.asg rfl rfl) rfl rfl rfl ?_
            | refine Jl.yd (Y.ext rfl rfl rfl) rfl rfl rfl ?_
            | refine Jl.yd (Y.pickT rfl rfl rfl) rfl rfl rfl ?_
            | refine Jl.yd (Y.pickF rfl rfl rfl) rfl rfl rfl ?_
            | refine Jl.off rfl rfl rfl ?_
            | refine Jl.yd (Y.cmpF rfl rfl rfl rfl (by omega)) rfl rfl rfl ?_
            | refine Jl.yd (Y.cmpT rfl rfl rfl rfl (by omega)) rfl rfl rfl ?_
            | refine Jl.yd (Y.neqB rfl rfl rfl Try.underlying4) rfl rfl rfl ?_
            | refine Jl.yd (Y.cmp rfl rfl rfl rfl) rfl rfl rfl ?_
            | refine Jl.yd (Y.not rfl rfl) rfl rfl rfl ?_
            | refine Jl.yd (Y.arithN rfl rfl rfl rfl (by omega)) rfl rfl rfl ?_
            | refine Jl.yd (Y.arith64 rfl rfl rfl rfl) rfl rfl rfl ?_
            | refine Jl.yd (Y.loadA rfl rfl agg26 (by repeat (first | exact .head _ | refine .tail _ ?_)) (by rfl)) rfl rfl rfl ?_
            | refine Jl.yd (Y.lenS Try.underlying65 rfl rfl rfl) rfl rfl rfl ?_
            | refine Jl.yd (Y.lenS Try.underlying24 rfl rfl rfl) rfl rfl rfl ?_
            | refine Jl.yd (Y.idx rfl rfl rfl el24 (by omega) (by omega)) rfl rfl rfl ?_
            | refine Jl.yd (Y.loadI (xs := s) (n := s.length) rfl rfl sc3 (by repeat (first | exact .head _ | refine .tail _ ?_)) ((k : Int) - 1) (by omega) (by omega) rfl) rfl rfl rfl ?_
            | refine Jl.yd (Y.idx rfl rfl rfl el65 (by omega) (by omega)) rfl rfl rfl ?_
            | refine Jl.yd (Y.loadK z76 [.int .i64 y.f0, .int .i64 y.f1, .int .i64 y.f2, .int .i64 y.f3] rfl rfl agg76 (by repeat (first | exact .head _ | refine .tail _ ?_)) ((s.getD ((k : Int) - 1).toNat 0)) (by omega) (by omega) (by rfl) (fun w cs h => (k76_open h).trans huy) (by rfl)) rfl rfl rfl ?_
            | refine Jl.yd (Y.loadK z76 [.int .i64 x.f0, .int .i64 x.f1, .int .i64 x.f2, .int .i64 x.f3] rfl rfl agg76 (by repeat (first | exact .head _ | refine .tail _ ?_)) ((i : Int)) (by omega) (by omega) (by rfl) (fun w cs h => (k76_open h).trans hux) (by rfl)) rfl rfl rfl ?_
            | refine Jl.call1 (v := .int .i64 (mm wd cs y)) rfl rfl rfl rfl en123 rfl (fun w hW => by with_reducible exact minS hg' hyo A0 c0 w (hW.fact (p := (fun W => Kd.C (Kd.int .i64) W A0 cs.length cs)) (by repeat (first | exact memH | refine memT ?_))) hc) ?_
            | refine Jl.call1 (v := .int .i64 (mm wd cs x)) rfl rfl rfl rfl en123 rfl (fun w hW => by with_reducible exact minS hg' hxo A0 c0 w (hW.fact (p := (fun W => Kd.C (Kd.int .i64) W A0 cs.length cs)) (by repeat (first | exact memH | refine memT ?_))) hc) ?_
            | refine Jl.splitG rfl rfl (fun h => ?_) (fun h => ?_))
          | (apply gateE; first
            | refine Jl.nil (Ej.go ?_ (fun _ _ h => h))
            | (refine Jl.nil (Ej.back (fun _ _ h => h) (by repeat (first | exact .refl | apply DropTo.tail)) ?_); repeat (first | exact trivial | refine ⟨rfl, ?_⟩)))
          | (apply gateC; first
            | refine Cj.block rfl ?_
            | refine Cj.regionD rfl (mkD [0, 1, 2, 3, 4, 5, 6, 7, 8, 9, 10, 11, 12, 13, 14, 15, 16, 19, 20] []) [] [0, 1, 2, 3, 4, 5, 6, 7, 8, 9, 10, 11, 13, 14, 15, 16, 17, 12, 18, 19, 20] mixed (by decide +kernel) ?_
            | refine Cj.condF rfl rfl (Cj.skip rfl (Ej.go ?_ (fun _ _ h => h)))
            | (refine Cj.condF rfl rfl (Cj.skip rfl (Ej.back (fun _ _ h => h) (by repeat (first | exact .refl | apply DropTo.tail)) ?_)); repeat (first | exact trivial | refine ⟨rfl, ?_⟩))
            | refine Cj.condF rfl rfl ?_
            | refine Cj.condT rfl rfl ?_
            | refine Cj.exit rfl (Ej.go ?_ (fun _ _ h => h))
            | refine Cj.cond rfl rfl (fun h => ?_) (fun h => ?_)
            | refine Cj.skip rfl (Ej.go ?_ (fun _ _ h => h))
            | (refine Cj.skip rfl (Ej.back (fun _ _ h => h) (by repeat (first | exact .refl | apply DropTo.tail)) ?_); repeat (first | exact trivial | refine ⟨rfl, ?_⟩))
            | refine Cj.seq rfl ?_
            | refine Cj.region rfl ?_))
      refine Cj.regionJ rfl [0, 4, 6, 7, 11] mixed ?_
      refine Jw.take 1 rfl (by decide +kernel) (by intro c a d v w h; cases d <;> exact h) (fun w => Y.mv rfl rfl) rfl rfl rfl ?_
      refine Jw.take 2 rfl (by decide +kernel) (by intro c a d v w h; cases d <;> exact h) (fun w => Y.mv rfl rfl) rfl rfl rfl ?_
      refine Jw.take 5 rfl (by decide +kernel) (by intro c a d v w h; cases d <;> exact h) (fun w => Y.mv rfl rfl) rfl rfl rfl ?_
      refine Jw.take 8 rfl (by decide +kernel) (by intro c a d v w h; cases d <;> exact h) (fun w => Y.mv rfl rfl) rfl rfl rfl ?_
      refine Jw.take 9 rfl (by decide +kernel) (by intro c a d v w h; cases d <;> exact h) (fun w => Y.mv rfl rfl) rfl rfl rfl ?_
      refine Jw.take 3 rfl (by decide +kernel) (by intro c a d v w h; cases d <;> exact h) (fun w => Y.sliTo rfl rfl rfl el24 (by omega) (by omega)) rfl rfl rfl ?_
      refine Jw.take 10 rfl (by decide +kernel) (by intro c a d v w h; cases d <;> exact h) (fun w => Y.sliFrom rfl rfl rfl el24 (by omega) (by omega)) rfl rfl rfl ?_
      refine Jw.br2 (mkD [] [0]) 0 6 rfl rfl (by decide +kernel) rfl rfl ?_ ?_
      · skip
        refine Jl.lit0 KI rfl rfl rfl rfl el24 (fun g0 => ?_)
        refine Jl.jw ?_
        refine Jw.br2 (mkD [] [0]) 4 6 rfl rfl (by decide +kernel) rfl rfl ?_ ?_
        · skip
          refine Jl.appI (xs := []) (zs := s.take k) rfl rfl rfl rfl rfl rfl ap24 (by rw [List.length_take]; omega) (by repeat (first | exact memH | refine memT ?_)) (by repeat (first | exact .z | apply OutAt.s)) (by try simp only [List.length_append, List.length_cons, List.length_nil, List.length_take, List.length_drop]; omega) (fun A4 c4 h4 => ?_)
          refine Jl.jw ?_
          refine Jw.step (mkD [] [0]) 6 rfl (by decide +kernel) rfl rfl ?_
          refine Jl.lit1 rfl rfl rfl rfl rfl el24 zero3 rfl (fun g6 => ?_)
          refine Jl.jw ?_
          refine Jw.step (mkD [] [0]) 7 rfl (by decide +kernel) rfl rfl ?_
          refine Jl.app (dk := KI) (xs := [] ++ s.take k) (i : Int) (fun _ => False) rfl rfl rfl rfl rfl rfl ap24 (by repeat (first | exact .head _ | refine .tail _ ?_)) rfl (fun w => rfl) (fun u hu => by rw [List.mem_singleton.1 hu]; rfl) (by repeat (first | exact .z | apply OutAt.s)) (by try simp only [List.length_append, List.length_cons, List.length_nil, List.length_take, List.length_drop]; omega) (by try simp only [List.length_append, List.length_cons, List.length_nil, List.length_take, List.length_drop]; omega) (fun A7 c7 h7 => ?_)
          refine Jl.jw ?_
          refine Jw.step (mkD [] [0]) 11 rfl (by decide +kernel) rfl rfl ?_
          refine Jl.appI (xs := ([] ++ s.take k) ++ [(i : Int)]) (zs := s.drop k) rfl rfl rfl rfl rfl rfl ap24 (by rw [List.length_drop]; omega) (by repeat (first | exact memH | refine memT ?_)) (by repeat (first | exact .z | apply OutAt.s)) (by try simp only [List.length_append, List.length_cons, List.length_nil, List.length_take, List.length_drop]; omega) (fun A11 c11 h11 => ?_)
          refine Jl.jw ?_
          refine Jw.take 12 rfl (by decide +kernel) (by intro c a d v w h; cases d <;> exact h) (fun w => Y.asg rfl rfl) rfl rfl rfl ?_
          refine Jw.done (by decide +kernel) (Ej.go ?_ (fun _ _ h => h))
          repeat (first
              | (apply gateO; first
                | refine Jl.yd (Y.mv rfl rfl) rfl rfl rfl ?_
                | refine Jl.yd (Y.asg rfl rfl) rfl rfl rfl ?_
                | refine Jl.yd (Y.ext rfl rfl rfl) rfl rfl rfl ?_
                | refine Jl.yd (Y.pickT rfl rfl rfl) rfl rfl rfl ?_
                | refine Jl.yd (Y.pickF rfl rfl rfl) rfl rfl rfl ?_
                | refine Jl.off rfl rfl rfl ?_
                | refine Jl.yd (Y.cmpF rfl rfl rfl rfl (by omega)) rfl rfl rfl ?_
                | refine Jl.yd (Y.cmpT rfl rfl rfl rfl (by omega)) rfl rfl rfl ?_
                | refine Jl.yd (Y.neqB rfl rfl rfl Try.underlying4) rfl rfl rfl ?_
                | refine Jl.yd (Y.cmp rfl rfl rfl rfl) rfl rfl rfl ?_
                | refine Jl.yd (Y.not rfl rfl) rfl rfl rfl ?_
                | refine Jl.yd (Y.arithN rfl rfl rfl rfl (by omega)) rfl rfl rfl ?_
                | refine Jl.yd (Y.arith64 rfl rfl rfl rfl) rfl rfl rfl ?_
                | refine Jl.yd (Y.loadA rfl rfl agg26 (by repeat (first | exact .head _ | refine .tail _ ?_)) (by rfl)) rfl rfl rfl ?_
                | refine Jl.yd (Y.lenS Try.underlying65 rfl rfl rfl) rfl rfl rfl ?_
                | refine Jl.yd (Y.lenS Try.underlying24 rfl rfl rfl) rfl rfl rfl ?_
                | refine Jl.splitG rfl rfl (fun h => ?_) (fun h => ?_))
              | (apply gateE; first
                | refine Jl.nil (Ej.go ?_ (fun _ _ h => h))
                | (refine Jl.nil (Ej.back (fun _ _ h => h) (by repeat (first | exact .refl | apply DropTo.tail)) ?_); repeat (first | exact trivial | refine ⟨rfl, ?_⟩)))
              | (apply gateC; first
                | refine Cj.block rfl ?_
                | refine Cj.condF rfl rfl (Cj.skip rfl (Ej.go ?_ (fun _ _ h => h)))
                | (refine Cj.condF rfl rfl (Cj.skip rfl (Ej.back (fun _ _ h => h) (by repeat (first | exact .refl | apply DropTo.tail)) ?_)); repeat (first | exact trivial | refine ⟨rfl, ?_⟩))
                | refine Cj.condF rfl rfl ?_
                | refine Cj.condT rfl rfl ?_
                | refine Cj.exit rfl (Ej.go ?_ (fun _ _ h => h))
                | refine Cj.cond rfl rfl (fun h => ?_) (fun h => ?_)
                | refine Cj.skip rfl (Ej.go ?_ (fun _ _ h => h))
                | (refine Cj.skip rfl (Ej.back (fun _ _ h => h) (by repeat (first | exact .refl | apply DropTo.tail)) ?_); repeat (first | exact trivial | refine ⟨rfl, ?_⟩))
                | refine Cj.seq rfl ?_
                | refine Cj.region rfl ?_))
          refine Jl.nil (Ej.cutP (ι := Nat × Option Addr × Nat × List Int) _ _ _ _ (fun _ _ h => h) (i + 1, A11, c11, (([] ++ s.take k) ++ [(i : Int)]) ++ s.drop k) ⟨⟨by omega, fin, h11⟩, by dsimp only; omega⟩ ⟨rfl, rfl, rfl, rfl, trivial⟩ (by repeat (first | exact .nil | refine Pick.cons (by repeat (first | exact .z | apply OutAt.s)) ?_)) (fun p hp => List.mem_cons_of_mem _ (List.mem_cons_of_mem _ (List.mem_cons_of_mem _ hp))))
        · skip
          refine Jl.lit1 rfl rfl rfl rfl rfl el24 zero3 rfl (fun g6 => ?_)
          refine Jl.jw ?_
          refine Jw.step (mkD [] [0]) 4 rfl (by decide +kernel) rfl rfl ?_
          refine Jl.appI (xs := []) (zs := s.take k) rfl rfl rfl rfl rfl rfl ap24 (by rw [List.length_take]; omega) (by repeat (first | exact memH | refine memT ?_)) (by repeat (first | exact .z | apply OutAt.s)) (by try simp only [List.length_append, List.length_cons, List.length_nil, List.length_take, List.length_drop]; omega) (fun A4 c4 h4 => ?_)
          refine Jl.jw ?_
          refine Jw.step (mkD [] [0]) 7 rfl (by decide +kernel) rfl rfl ?_
          refine Jl.app (dk := KI) (xs := [] ++ s.take k) (i : Int) (fun _ => False) rfl rfl rfl rfl rfl rfl ap24 (by repeat (first | exact .head _ | refine .tail _ ?_)) rfl (fun w => rfl) (fun u hu => by rw [List.mem_singleton.1 hu]; rfl) (by repeat (first | exact .z | apply OutAt.s)) (by try simp only [List.length_append, List.length_cons, List.length_nil, List.length_take, List.length_drop]; omega) (by try simp only [List.length_append, List.length_cons, List.length_nil, List.length_take, List.length_drop]; omega) (fun A7 c7 h7 => ?_)
          refine Jl.jw ?_
          refine Jw.step (mkD [] [0]) 11 rfl (by decide +kernel) rfl rfl ?_
          refine Jl.appI (xs := ([] ++ s.take k) ++ [(i : Int)]) (zs := s.drop k) rfl rfl rfl rfl rfl rfl ap24 (by rw [List.length_drop]; omega) (by repeat (first | exact memH | refine memT ?_)) (by repeat (first | exact .z | apply OutAt.s)) (by try simp only [List.length_append, List.length_cons, List.length_nil, List.length_take, List.length_drop]; omega) (fun A11 c11 h11 => ?_)
          refine Jl.jw ?_
          refine Jw.take 12 rfl (by decide +kernel) (by intro c a d v w h; cases d <;> exact h) (fun w => Y.asg rfl rfl) rfl rfl rfl ?_
          refine Jw.done (by decide +kernel) (Ej.go ?_ (fun _ _ h => h))
          repeat (first
              | (apply gateO; first
                | refine Jl.yd (Y.mv rfl rfl) rfl rfl rfl ?_
                | refine Jl.yd (Y.asg rfl rfl) rfl rfl rfl ?_
                | refine Jl.yd (Y.ext rfl rfl rfl) rfl rfl rfl ?_
                | refine Jl.yd (Y.pickT rfl rfl rfl) rfl rfl rfl ?_
                | refine Jl.yd (Y.pickF rfl rfl rfl) rfl rfl rfl ?_
                | refine Jl.off rfl rfl rfl ?_
                | refine Jl.yd (Y.cmpF rfl rfl rfl rfl (by omega)) rfl rfl rfl ?_
                | refine Jl.yd (Y.cmpT rfl rfl rfl rfl (by omega)) rfl rfl rfl ?_
                | refine Jl.yd (Y.neqB rfl rfl rfl Try.underlying4) rfl rfl rfl ?_
                | refine Jl.yd (Y.cmp rfl rfl rfl rfl) rfl rfl rfl ?_
                | refine Jl.yd (Y.not rfl rfl) rfl rfl rfl ?_
                | refine Jl.yd (Y.arithN rfl rfl rfl rfl (by omega)) rfl rfl rfl ?_
                | refine Jl.yd (Y.arith64 rfl rfl rfl rfl) rfl rfl rfl ?_
                | refine Jl.yd (Y.loadA rfl rfl agg26 (by repeat (first | exact .head _ | refine .tail _ ?_)) (by rfl)) rfl rfl rfl ?_
                | refine Jl.yd (Y.lenS Try.underlying65 rfl rfl rfl) rfl rfl rfl ?_
                | refine Jl.yd (Y.lenS Try.underlying24 rfl rfl rfl) rfl rfl rfl ?_
                | refine Jl.splitG rfl rfl (fun h => ?_) (fun h => ?_))
              | (apply gateE; first
                | refine Jl.nil (Ej.go ?_ (fun _ _ h => h))
                | (refine Jl.nil (Ej.back (fun _ _ h => h) (by repeat (first | exact .refl | apply DropTo.tail)) ?_); repeat (first | exact trivial | refine ⟨rfl, ?_⟩)))
              | (apply gateC; first
                | refine Cj.block rfl ?_
                | refine Cj.condF rfl rfl (Cj.skip rfl (Ej.go ?_ (fun _ _ h => h)))
                | (refine Cj.condF rfl rfl (Cj.skip rfl (Ej.back (fun _ _ h => h) (by repeat (first | exact .refl | apply DropTo.tail)) ?_)); repeat (first | exact trivial | refine ⟨rfl, ?_⟩))
                | refine Cj.condF rfl rfl ?_
                | refine Cj.condT rfl rfl ?_
                | refine Cj.exit rfl (Ej.go ?_ (fun _ _ h => h))
                | refine Cj.cond rfl rfl (fun h => ?_) (fun h => ?_)
                | refine Cj.skip rfl (Ej.go ?_ (fun _ _ h => h))
                | (refine Cj.skip rfl (Ej.back (fun _ _ h => h) (by repeat (first | exact .refl | apply DropTo.tail)) ?_); repeat (first | exact trivial | refine ⟨rfl, ?_⟩))
                | refine Cj.seq rfl ?_
                | refine Cj.region rfl ?_))
          refine Jl.nil (Ej.cutP (ι := Nat × Option Addr × Nat × List Int) _ _ _ _ (fun _ _ h => h) (i + 1, A11, c11, (([] ++ s.take k) ++ [(i : Int)]) ++ s.drop k) ⟨⟨by omega, fin, h11⟩, by dsimp only; omega⟩ ⟨rfl, rfl, rfl, rfl, trivial⟩ (by repeat (first | exact .nil | refine Pick.cons (by repeat (first | exact .z | apply OutAt.s)) ?_)) (fun p hp => List.mem_cons_of_mem _ (List.mem_cons_of_mem _ (List.mem_cons_of_mem _ hp))))
      · skip
        refine Jl.lit1 rfl rfl rfl rfl rfl el24 zero3 rfl (fun g6 => ?_)
        refine Jl.jw ?_
        refine Jw.step (mkD [] [0]) 0 rfl (by decide +kernel) rfl rfl ?_
        refine Jl.lit0 KI rfl rfl rfl rfl el24 (fun g0 => ?_)
        refine Jl.jw ?_
        refine Jw.step (mkD [] [0]) 4 rfl (by decide +kernel) rfl rfl ?_
        refine Jl.appI (xs := []) (zs := s.take k) rfl rfl rfl rfl rfl rfl ap24 (by rw [List.length_take]; omega) (by repeat (first | exact memH | refine memT ?_)) (by repeat (first | exact .z | apply OutAt.s)) (by try simp only [List.length_append, List.length_cons, List.length_nil, List.length_take, List.length_drop]; omega) (fun A4 c4 h4 => ?_)
        refine Jl.jw ?_
        refine Jw.step (mkD [] [0]) 7 rfl (by decide +kernel) rfl rfl ?_
        refine Jl.app (dk := KI) (xs := [] ++ s.take k) (i : Int) (fun _ => False) rfl rfl rfl rfl rfl rfl ap24 (by repeat (first | exact .head _ | refine .tail _ ?_)) rfl (fun w => rfl) (fun u hu => by rw [List.mem_singleton.1 hu]; rfl) (by repeat (first | exact .z | apply OutAt.s)) (by try simp only [List.length_append, List.length_cons, List.length_nil, List.length_take, List.length_drop]; omega) (by try simp only [List.length_append, List.length_cons, List.length_nil, List.length_take, List.length_drop]; omega) (fun A7 c7 h7 => ?_)
        refine Jl.jw ?_
        refine Jw.step (mkD [] [0]) 11 rfl (by decide +kernel) rfl rfl ?_
        refine Jl.appI (xs := ([] ++ s.take k) ++ [(i : Int)]) (zs := s.drop k) rfl rfl rfl rfl rfl rfl ap24 (by rw [List.length_drop]; omega) (by repeat (first | exact memH | refine memT ?_)) (by repeat (first | exact .z | apply OutAt.s)) (by try simp only [List.length_append, List.length_cons, List.length_nil, List.length_take, List.length_drop]; omega) (fun A11 c11 h11 => ?_)
        refine Jl.jw ?_
        refine Jw.take 12 rfl (by decide +kernel) (by intro c a d v w h; cases d <;> exact h) (fun w => Y.asg rfl rfl) rfl rfl rfl ?_
        refine Jw.done (by decide +kernel) (Ej.go ?_ (fun _ _ h => h))
        repeat (first
            | (apply gateO; first
              | refine Jl.yd (Y.mv rfl rfl) rfl rfl rfl ?_
              | refine Jl.yd (Y.asg rfl rfl) rfl rfl rfl ?_
              | refine Jl.yd (Y.ext rfl rfl rfl) rfl rfl rfl ?_
              | refine Jl.yd (Y.pickT rfl rfl rfl) rfl rfl rfl ?_
              | refine Jl.yd (Y.pickF rfl rfl rfl) rfl rfl rfl ?_
              | refine Jl.off rfl rfl rfl ?_
              | refine Jl.yd (Y.cmpF rfl rfl rfl rfl (by omega)) rfl rfl rfl ?_
              | refine Jl.yd (Y.cmpT rfl rfl rfl rfl (by omega)) rfl rfl rfl ?_
              | refine Jl.yd (Y.neqB rfl rfl rfl Try.underlying4) rfl rfl rfl ?_
              | refine Jl.yd (Y.cmp rfl rfl rfl rfl) rfl rfl rfl ?_
              | refine Jl.yd (Y.not rfl rfl) rfl rfl rfl ?_
              | refine Jl.yd (Y.arithN rfl rfl rfl rfl (by omega)) rfl rfl rfl ?_
              | refine Jl.yd (Y.arith64 rfl rfl rfl rfl) rfl rfl rfl ?_
              | refine Jl.yd (Y.loadA rfl rfl agg26 (by repeat (first | exact .head _ | refine .tail _ ?_)) (by rfl)) rfl rfl rfl ?_
              | refine Jl.yd (Y.lenS Try.underlying65 rfl rfl rfl) rfl rfl rfl ?_
              | refine Jl.yd (Y.lenS Try.underlying24 rfl rfl rfl) rfl rfl rfl ?_
              | refine Jl.splitG rfl rfl (fun h => ?_) (fun h => ?_))
            | (apply gateE; first
              | refine Jl.nil (Ej.go ?_ (fun _ _ h => h))
              | (refine Jl.nil (Ej.back (fun _ _ h => h) (by repeat (first | exact .refl | apply DropTo.tail)) ?_); repeat (first | exact trivial | refine ⟨rfl, ?_⟩)))
            | (apply gateC; first
              | refine Cj.block rfl ?_
              | refine Cj.condF rfl rfl (Cj.skip rfl (Ej.go ?_ (fun _ _ h => h)))
              | (refine Cj.condF rfl rfl (Cj.skip rfl (Ej.back (fun _ _ h => h) (by repeat (first | exact .refl | apply DropTo.tail)) ?_)); repeat (first | exact trivial | refine ⟨rfl, ?_⟩))
              | refine Cj.condF rfl rfl ?_
              | refine Cj.condT rfl rfl ?_
              | refine Cj.exit rfl (Ej.go ?_ (fun _ _ h => h))
              | refine Cj.cond rfl rfl (fun h => ?_) (fun h => ?_)
              | refine Cj.skip rfl (Ej.go ?_ (fun _ _ h => h))
              | (refine Cj.skip rfl (Ej.back (fun _ _ h => h) (by repeat (first | exact .refl | apply DropTo.tail)) ?_); repeat (first | exact trivial | refine ⟨rfl, ?_⟩))
              | refine Cj.seq rfl ?_
              | refine Cj.region rfl ?_))
        refine Jl.nil (Ej.cutP (ι := Nat × Option Addr × Nat × List Int) _ _ _ _ (fun _ _ h => h) (i + 1, A11, c11, (([] ++ s.take k) ++ [(i : Int)]) ++ s.drop k) ⟨⟨by omega, fin, h11⟩, by dsimp only; omega⟩ ⟨rfl, rfl, rfl, rfl, trivial⟩ (by repeat (first | exact .nil | refine Pick.cons (by repeat (first | exact .z | apply OutAt.s)) ?_)) (fun p hp => List.mem_cons_of_mem _ (List.mem_cons_of_mem _ (List.mem_cons_of_mem _ hp))))
    · obtain ⟨yi, hyi⟩ : ∃ y, s[k - 1]? = some y := ⟨_, List.getElem?_eq_getElem (by omega)⟩
      obtain ⟨j, hj, rfl⟩ := ordL_mem (hs ▸ List.mem_of_getElem? hyi)
      have hgd : s.getD ((k : Int) - 1).toNat 0 = (j : Int) := by
        rw [show ((k : Int) - 1).toNat = k - 1 by omega, List.getD_eq_getElem?_getD, hyi]; rfl
      obtain ⟨y, hy⟩ : ∃ y, nth l j z76 = y := ⟨_, rfl⟩
      have hyo : okH wd ht y = true := hy ▸ ho j (by omega)
      have huy : ([.int .i64 (l.getD (s.getD ((k : Int) - 1).toNat 0).toNat z76).f0, .int .i64 (l.getD (s.getD ((k : Int) - 1).toNat 0).toNat z76).f1, .int .i64 (l.getD (s.getD ((k : Int) - 1).toNat 0).toNat z76).f2, .int .i64 (l.getD (s.getD ((k : Int) - 1).toNat 0).toNat z76).f3] : List Value) = [.int .i64 y.f0, .int .i64 y.f1, .int .i64 y.f2, .int .i64 y.f3] := by
        have hx2 : l.getD j z76 = y := hy
        rw [hgd, Int.toNat_natCast, hx2]
      obtain ⟨ad1, rfl⟩ : ∃ ad, A = some ad := hAn (by omega)
      have hlt2 : ltM wd cs l (i : Int) (j : Int) = decide (mm wd cs x < mm wd cs y) := by
        unfold ltM
        rw [Int.toNat_natCast, Int.toNat_natCast, hx, hy]
      have htk2 : (s.take k).reverse = (j : Int) :: (s.take (k - 1)).reverse := by
        obtain ⟨m, rfl⟩ : ∃ m, k = m + 1 := ⟨k - 1, by omega⟩
        rw [List.take_add_one, show s[m]? = some (j : Int) from hyi]; simp
      have hdr2 : (j : Int) :: s.drop k = s.drop (k - 1) := by
        obtain ⟨m, rfl⟩ : ∃ m, k = m + 1 := ⟨k - 1, by omega⟩
        rw [show m + 1 - 1 = m from rfl, List.drop_eq_getElem_cons (i := m) (by omega)]
        congr 1
        exact (List.getElem?_eq_some_iff.1 hyi).2.symm
      by_cases hcm : mm wd cs x < mm wd cs y
      · have hgo2 : goI (ltM wd cs l) (i : Int) (s.take (k - 1)).reverse (s.drop (k - 1)) = insR (ltM wd cs l) s (i : Int) := by
          rw [← hgo, htk2, ← hdr2]
          conv => rhs; unfold goI
          rw [if_pos (by rw [hlt2]; simpa using hcm)]
        repeat (first
    | (apply gateO; first
      | refine Jl.yd (Y.mv rfl rfl) rfl rfl rfl ?_
      | refine Jl.yd (Y.asg rfl rfl) rfl rfl rfl ?_
      | refine Jl.yd (Y.ext rfl rfl rfl) rfl rfl rfl ?_
      | refine Jl.yd (Y.pickT rfl rfl rfl) rfl rfl rfl ?_
      | refine Jl.yd (Y.pickF rfl rfl rfl) rfl rfl rfl ?_
      | refine Jl.off rfl rfl rfl ?_
      | refine Jl.yd (Y.cmpF rfl rfl rfl rfl (by omega)) rfl rfl rfl ?_
      | refine Jl.yd (Y.cmpT rfl rfl rfl rfl (by omega)) rfl rfl rfl ?_
      | refine Jl.yd (Y.neqB rfl rfl rfl Try.underlying4) rfl rfl rfl ?_
      | refine Jl.yd (Y.cmp rfl rfl rfl rfl) rfl rfl rfl ?_
      | refine Jl.yd (Y.not rfl rfl) rfl rfl rfl ?_
      | refine Jl.yd (Y.arithN rfl rfl rfl rfl (by omega)) rfl rfl rfl ?_
      | refine Jl.yd (Y.arith64 rfl rfl rfl rfl) rfl rfl rfl ?_
      | refine Jl.yd (Y.loadA rfl rfl agg26 (by repeat (first | exact .head _ | refine .tail _ ?_)) (by rfl)) rfl rfl rfl ?_
      | refine Jl.yd (Y.lenS Try.underlying65 rfl rfl rfl) rfl rfl rfl ?_
      | refine Jl.yd (Y.lenS Try.underlying24 rfl rfl rfl) rfl rfl rfl ?_
      | refine Jl.yd (Y.idx rfl rfl rfl el24 (by omega) (by omega)) rfl rfl rfl ?_
      | refine Jl.yd (Y.loadI (xs := s) (n := s.length) rfl rfl sc3 (by repeat (first | exact .head _ | refine .tail _ ?_)) ((k : Int) - 1) (by omega) (by omega) rfl) rfl rfl rfl ?_
      | refine Jl.yd (Y.idx rfl rfl rfl el65 (by omega) (by omega)) rfl rfl rfl ?_
      | refine Jl.yd (Y.loadK z76 [.int .i64 y.f0, .int .i64 y.f1, .int .i64 y.f2, .int .i64 y.f3] rfl rfl agg76 (by repeat (first | exact .head _ | refine .tail _ ?_)) ((s.getD ((k : Int) - 1).toNat 0)) (by omega) (by omega) (by rfl) (fun w cs h => (k76_open h).trans huy) (by rfl)) rfl rfl rfl ?_
      | refine Jl.yd (Y.loadK z76 [.int .i64 x.f0, .int .i64 x.f1, .int .i64 x.f2, .int .i64 x.f3] rfl rfl agg76 (by repeat (first | exact .head _ | refine .tail _ ?_)) ((i : Int)) (by omega) (by omega) (by rfl) (fun w cs h => (k76_open h).trans hux) (by rfl)) rfl rfl rfl ?_
      | refine Jl.call1 (v := .int .i64 (mm wd cs y)) rfl rfl rfl rfl en123 rfl (fun w hW => by with_reducible exact minS hg' hyo A0 c0 w (hW.fact (p := (fun W => Kd.C (Kd.int .i64) W A0 cs.length cs)) (by repeat (first | exact memH | refine memT ?_))) hc) ?_
      | refine Jl.call1 (v := .int .i64 (mm wd cs x)) rfl rfl rfl rfl en123 rfl (fun w hW => by with_reducible exact minS hg' hxo A0 c0 w (hW.fact (p := (fun W => Kd.C (Kd.int .i64) W A0 cs.length cs)) (by repeat (first | exact memH | refine memT ?_))) hc) ?_
      | refine Jl.splitG rfl rfl (fun h => ?_) (fun h => ?_))
    | (apply gateE; first
      | refine Jl.nil (Ej.go ?_ (fun _ _ h => h))
      | (refine Jl.nil (Ej.back (fun _ _ h => h) (by repeat (first | exact .refl | apply DropTo.tail)) ?_); repeat (first | exact trivial | refine ⟨rfl, ?_⟩)))
    | (apply gateC; first
      | refine Cj.block rfl ?_
      | refine Cj.regionD rfl (mkD [0, 1, 2, 3, 4, 5, 6, 7, 8, 9, 10, 11, 12, 13, 14, 15, 16, 19, 20] []) [] [0, 1, 2, 3, 4, 5, 6, 7, 8, 9, 10, 11, 13, 14, 15, 16, 17, 12, 18, 19, 20] mixed (by decide +kernel) ?_
      | refine Cj.condF rfl rfl (Cj.skip rfl (Ej.go ?_ (fun _ _ h => h)))
      | (refine Cj.condF rfl rfl (Cj.skip rfl (Ej.back (fun _ _ h => h) (by repeat (first | exact .refl | apply DropTo.tail)) ?_)); repeat (first | exact trivial | refine ⟨rfl, ?_⟩))
      | refine Cj.condF rfl rfl ?_
      | refine Cj.condT rfl rfl ?_
      | refine Cj.exit rfl (Ej.go ?_ (fun _ _ h => h))
      | refine Cj.cond rfl rfl (fun h => ?_) (fun h => ?_)
      | refine Cj.skip rfl (Ej.go ?_ (fun _ _ h => h))
      | (refine Cj.skip rfl (Ej.back (fun _ _ h => h) (by repeat (first | exact .refl | apply DropTo.tail)) ?_); repeat (first | exact trivial | refine ⟨rfl, ?_⟩))
      | refine Cj.seq rfl ?_
      | refine Cj.region rfl ?_))
        refine Jl.nil (Ej.cutP (ι := Nat) _ _ _ _ (fun _ _ h => h) (k - 1) ⟨⟨by omega, hgo2⟩, by (try dsimp only); omega⟩ ⟨rfl, rfl, rfl, rfl, ?_, trivial⟩ (by repeat (first | exact .nil | refine Pick.cons (by repeat (first | exact .z | apply OutAt.s)) ?_)) (fun p hp => hp))
        show some (Value.int .i64 ((k : Int) - 1)) = some (.int .i64 ((k - 1 : Nat) : Int))
        rw [show ((k - 1 : Nat) : Int) = (k : Int) - 1 by omega]
      · have fin : (([] ++ s.take k) ++ [(i : Int)]) ++ s.drop k = ordL wd cs l (i + 1) := by
          rw [hE, ← hgo, htk2]
          unfold goI
          rw [if_neg (by rw [hlt2]; simpa using hcm)]
          have := congrArg List.reverse htk2
          rw [List.reverse_reverse, List.reverse_cons, List.reverse_reverse] at this
          rw [this]; simp
        refine Cj.ws (ι := Unit) (fun _ => True) (fun _ => [.box gc 26 [.int .i64 wd, .int .i64 ht, .slice A0 cs.length c0]]) (fun _ => [(fun W => KI.C W (some ad1) (s.take k).length (s.take k)), (fun W => KI.C W (if c = ((k : Int)).toNat then (some ad1) else Option.map (fun x => x.add (((k : Int)).toNat * 1)) (some ad1)) (s.drop k).length (s.drop k)), (fun W => KI.C W (some ad1) s.length s), (fun W => Kd.C (Kd.int .i64) W A0 cs.length cs), (fun W => Kd.C k76 W (some ad) l.length l)]) (fun w' hW => ⟨(), trivial, ((hW.both (p := (fun W => KI.C W (some ad1) s.length s)) (q := (fun W => KI.C W (some ad1) s.length s)) (r := (fun W => KI.C W (if c = ((k : Int)).toNat then (some ad1) else Option.map (fun x => x.add (((k : Int)).toNat * 1)) (some ad1)) (s.drop k).length (s.drop k))) memH memH (fun W h _ => by rw [Int.toNat_natCast]; exact Kd.C_drop h hks hsc)).both (p := (fun W => KI.C W (some ad1) s.length s)) (q := (fun W => KI.C W (some ad1) s.length s)) (r := (fun W => KI.C W (some ad1) (s.take k).length (s.take k))) (memT memH) (memT memH) (fun W h _ => Kd.C_take h hks))⟩) (fun _ _ => ?_)
        repeat (first
            | (apply gateO; first
              | refine Jl.yd (Y.mv rfl rfl) rfl rfl rfl ?_
              | refine Jl.yd (Y.asg rfl rfl) rfl rfl rfl ?_
              | refine Jl.yd (Y.ext rfl rfl rfl) rfl rfl rfl ?_
              | refine Jl.yd (Y.pickT rfl rfl rfl) rfl rfl rfl ?_
              | refine Jl.yd (Y.pickF rfl rfl rfl) rfl rfl rfl ?_
              | refine Jl.off rfl rfl rfl ?_
              | refine Jl.yd (Y.cmpF rfl rfl rfl rfl (by omega)) rfl rfl rfl ?_
              | refine Jl.yd (Y.cmpT rfl rfl rfl rfl (by omega)) rfl rfl rfl ?_
              | refine Jl.yd (Y.neqB rfl rfl rfl Try.underlying4) rfl rfl rfl ?_
              | refine Jl.yd (Y.cmp rfl rfl rfl rfl) rfl rfl rfl ?_
              | refine Jl.yd (Y.not rfl rfl) rfl rfl rfl ?_
              | refine Jl.yd (Y.arithN rfl rfl rfl rfl (by omega)) rfl rfl rfl ?_
              | refine Jl.yd (Y.arith64 rfl rfl rfl rfl) rfl rfl rfl ?_
              | refine Jl.yd (Y.loadA rfl rfl agg26 (by repeat (first | exact .head _ | refine .tail _ ?_)) (by rfl)) rfl rfl rfl ?_
              | refine Jl.yd (Y.lenS Try.underlying65 rfl rfl rfl) rfl rfl rfl ?_
              | refine Jl.yd (Y.lenS Try.underlying24 rfl rfl rfl) rfl rfl rfl ?_
              | refine Jl.yd (Y.idx rfl rfl rfl el24 (by omega) (by omega)) rfl rfl rfl ?_
              | refine Jl.yd (Y.loadI (xs := s) (n := s.length) rfl rfl sc3 (by repeat (first | exact .head _ | refine .tail _ ?_)) ((k : Int) - 1) (by omega) (by omega) rfl) rfl rfl rfl ?_
              | refine Jl.yd (Y.idx rfl rfl rfl el65 (by omega) (by omega)) rfl rfl rfl ?_
              | refine Jl.yd (Y.loadK z76 [.int .i64 y.f0, .int .i64 y.f1, .int .i64 y.f2, .int .i64 y.f3] rfl rfl agg76 (by repeat (first | exact .head _ | refine .tail _ ?_)) ((s.getD ((k : Int) - 1).toNat 0)) (by omega) (by omega) (by rfl) (fun w cs h => (k76_open h).trans huy) (by rfl)) rfl rfl rfl ?_
              | refine Jl.yd (Y.loadK z76 [.int .i64 x.f0, .int .i64 x.f1, .int .i64 x.f2, .int .i64 x.f3] rfl rfl agg76 (by repeat (first | exact .head _ | refine .tail _ ?_)) ((i : Int)) (by omega) (by omega) (by rfl) (fun w cs h => (k76_open h).trans hux) (by rfl)) rfl rfl rfl ?_
              | refine Jl.call1 (v := .int .i64 (mm wd cs y)) rfl rfl rfl rfl en123 rfl (fun w hW => by with_reducible exact minS hg' hyo A0 c0 w (hW.fact (p := (fun W => Kd.C (Kd.int .i64) W A0 cs.length cs)) (by repeat (first | exact memH | refine memT ?_))) hc) ?_
              | refine Jl.call1 (v := .int .i64 (mm wd cs x)) rfl rfl rfl rfl en123 rfl (fun w hW => by with_reducible exact minS hg' hxo A0 c0 w (hW.fact (p := (fun W => Kd.C (Kd.int .i64) W A0 cs.length cs)) (by repeat (first | exact memH | refine memT ?_))) hc) ?_
              | refine Jl.splitG rfl rfl (fun h => ?_) (fun h => ?_))
            | (apply gateE; first
              | refine Jl.nil (Ej.go ?_ (fun _ _ h => h))
              | (refine Jl.nil (Ej.back (fun _ _ h => h) (by repeat (first | exact .refl | apply DropTo.tail)) ?_); repeat (first | exact trivial | refine ⟨rfl, ?_⟩)))
            | (apply gateC; first
              | refine Cj.block rfl ?_
              | refine Cj.regionD rfl (mkD [0, 1, 2, 3, 4, 5, 6, 7, 8, 9, 10, 11, 12, 13, 14, 15, 16, 19, 20] []) [] [0, 1, 2, 3, 4, 5, 6, 7, 8, 9, 10, 11, 13, 14, 15, 16, 17, 12, 18, 19, 20] mixed (by decide +kernel) ?_
              | refine Cj.condF rfl rfl (Cj.skip rfl (Ej.go ?_ (fun _ _ h => h)))
              | (refine Cj.condF rfl rfl (Cj.skip rfl (Ej.back (fun _ _ h => h) (by repeat (first | exact .refl | apply DropTo.tail)) ?_)); repeat (first | exact trivial | refine ⟨rfl, ?_⟩))
              | refine Cj.condF rfl rfl ?_
              | refine Cj.condT rfl rfl ?_
              | refine Cj.exit rfl (Ej.go ?_ (fun _ _ h => h))
              | refine Cj.cond rfl rfl (fun h => ?_) (fun h => ?_)
              | refine Cj.skip rfl (Ej.go ?_ (fun _ _ h => h))
              | (refine Cj.skip rfl (Ej.back (fun _ _ h => h) (by repeat (first | exact .refl | apply DropTo.tail)) ?_); repeat (first | exact trivial | refine ⟨rfl, ?_⟩))
              | refine Cj.seq rfl ?_
              | refine Cj.region rfl ?_))
        refine Cj.regionJ rfl [0, 4, 6, 7, 11] mixed ?_
        refine Jw.take 1 rfl (by decide +kernel) (by intro c a d v w h; cases d <;> exact h) (fun w => Y.mv rfl rfl) rfl rfl rfl ?_
        refine Jw.take 2 rfl (by decide +kernel) (by intro c a d v w h; cases d <;> exact h) (fun w => Y.mv rfl rfl) rfl rfl rfl ?_
        refine Jw.take 5 rfl (by decide +kernel) (by intro c a d v w h; cases d <;> exact h) (fun w => Y.mv rfl rfl) rfl rfl rfl ?_
        refine Jw.take 8 rfl (by decide +kernel) (by intro c a d v w h; cases d <;> exact h) (fun w => Y.mv rfl rfl) rfl rfl rfl ?_
        refine Jw.take 9 rfl (by decide +kernel) (by intro c a d v w h; cases d <;> exact h) (fun w => Y.mv rfl rfl) rfl rfl rfl ?_
        refine Jw.take 3 rfl (by decide +kernel) (by intro c a d v w h; cases d <;> exact h) (fun w => Y.sliTo rfl rfl rfl el24 (by omega) (by omega)) rfl rfl rfl ?_
        refine Jw.take 10 rfl (by decide +kernel) (by intro c a d v w h; cases d <;> exact h) (fun w => Y.sliFrom rfl rfl rfl el24 (by omega) (by omega)) rfl rfl rfl ?_
        refine Jw.br2 (mkD [] [0]) 0 6 rfl rfl (by decide +kernel) rfl rfl ?_ ?_
        · skip
          refine Jl.lit0 KI rfl rfl rfl rfl el24 (fun g0 => ?_)
          refine Jl.jw ?_
          refine Jw.br2 (mkD [] [0]) 4 6 rfl rfl (by decide +kernel) rfl rfl ?_ ?_
          · skip
            refine Jl.appI (xs := []) (zs := s.take k) rfl rfl rfl rfl rfl rfl ap24 (by rw [List.length_take]; omega) (by repeat (first | exact memH | refine memT ?_)) (by repeat (first | exact .z | apply OutAt.s)) (by try simp only [List.length_append, List.length_cons, List.length_nil, List.length_take, List.length_drop]; omega) (fun A4 c4 h4 => ?_)
            refine Jl.jw ?_
            refine Jw.step (mkD [] [0]) 6 rfl (by decide +kernel) rfl rfl ?_
            refine Jl.lit1 rfl rfl rfl rfl rfl el24 zero3 rfl (fun g6 => ?_)
            refine Jl.jw ?_
            refine Jw.step (mkD [] [0]) 7 rfl (by decide +kernel) rfl rfl ?_
            refine Jl.app (dk := KI) (xs := [] ++ s.take k) (i : Int) (fun _ => False) rfl rfl rfl rfl rfl rfl ap24 (by repeat (first | exact .head _ | refine .tail _ ?_)) rfl (fun w => rfl) (fun u hu => by rw [List.mem_singleton.1 hu]; rfl) (by repeat (first | exact .z | apply OutAt.s)) (by try simp only [List.length_append, List.length_cons, List.length_nil, List.length_take, List.length_drop]; omega) (by try simp only [List.length_append, List.length_cons, List.length_nil, List.length_take, List.length_drop]; omega) (fun A7 c7 h7 => ?_)
            refine Jl.jw ?_
            refine Jw.step (mkD [] [0]) 11 rfl (by decide +kernel) rfl rfl ?_
            refine Jl.appI (xs := ([] ++ s.take k) ++ [(i : Int)]) (zs := s.drop k) rfl rfl rfl rfl rfl rfl ap24 (by rw [List.length_drop]; omega) (by repeat (first | exact memH | refine memT ?_)) (by repeat (first | exact .z | apply OutAt.s)) (by try simp only [List.length_append, List.length_cons, List.length_nil, List.length_take, List.length_drop]; omega) (fun A11 c11 h11 => ?_)
            refine Jl.jw ?_
            refine Jw.take 12 rfl (by decide +kernel) (by intro c a d v w h; cases d <;> exact h) (fun w => Y.asg rfl rfl) rfl rfl rfl ?_
            refine Jw.done (by decide +kernel) (Ej.go ?_ (fun _ _ h => h))
            repeat (first
                | (apply gateO; first
                  | refine Jl.yd (Y.mv rfl rfl) rfl rfl rfl ?_
                  | refine Jl.yd (Y.asg rfl rfl) rfl rfl rfl ?_
                  | refine Jl.yd (Y.ext rfl rfl rfl) rfl rfl rfl ?_
                  | refine Jl.yd (Y.pickT rfl rfl rfl) rfl rfl rfl ?_
                  | refine Jl.yd (Y.pickF rfl rfl rfl) rfl rfl rfl ?_
                  | refine Jl.off rfl rfl rfl ?_
                  | refine Jl.yd (Y.cmpF rfl rfl rfl rfl (by omega)) rfl rfl rfl ?_
                  | refine Jl.yd (Y.cmpT rfl rfl rfl rfl (by omega)) rfl rfl rfl ?_
                  | refine Jl.yd (Y.neqB rfl rfl rfl Try.underlying4) rfl rfl rfl ?_
                  | refine Jl.yd (Y.cmp rfl rfl rfl rfl) rfl rfl rfl ?_
                  | refine Jl.yd (Y.not rfl rfl) rfl rfl rfl ?_
                  | refine Jl.yd (Y.arithN rfl rfl rfl rfl (by omega)) rfl rfl rfl ?_
                  | refine Jl.yd (Y.arith64 rfl rfl rfl rfl) rfl rfl rfl ?_
                  | refine Jl.yd (Y.loadA rfl rfl agg26 (by repeat (first | exact .head _ | refine .tail _ ?_)) (by rfl)) rfl rfl rfl ?_
                  | refine Jl.yd (Y.lenS Try.underlying65 rfl rfl rfl) rfl rfl rfl ?_
                  | refine Jl.yd (Y.lenS Try.underlying24 rfl rfl rfl) rfl rfl rfl ?_
                  | refine Jl.splitG rfl rfl (fun h => ?_) (fun h => ?_))
                | (apply gateE; first
                  | refine Jl.nil (Ej.go ?_ (fun _ _ h => h))
                  | (refine Jl.nil (Ej.back (fun _ _ h => h) (by repeat (first | exact .refl | apply DropTo.tail)) ?_); repeat (first | exact trivial | refine ⟨rfl, ?_⟩)))
                | (apply gateC; first
                  | refine Cj.block rfl ?_
                  | refine Cj.condF rfl rfl (Cj.skip rfl (Ej.go ?_ (fun _ _ h => h)))
                  | (refine Cj.condF rfl rfl (Cj.skip rfl (Ej.back (fun _ _ h => h) (by repeat (first | exact .refl | apply DropTo.tail)) ?_)); repeat (first | exact trivial | refine ⟨rfl, ?_⟩))
                  | refine Cj.condF rfl rfl ?_
                  | refine Cj.condT rfl rfl ?_
                  | refine Cj.exit rfl (Ej.go ?_ (fun _ _ h => h))
                  | refine Cj.cond rfl rfl (fun h => ?_) (fun h => ?_)
                  | refine Cj.skip rfl (Ej.go ?_ (fun _ _ h => h))
                  | (refine Cj.skip rfl (Ej.back (fun _ _ h => h) (by repeat (first | exact .refl | apply DropTo.tail)) ?_); repeat (first | exact trivial | refine ⟨rfl, ?_⟩))
                  | refine Cj.seq rfl ?_
                  | refine Cj.region rfl ?_))
            refine Jl.nil (Ej.cutP (ι := Nat × Option Addr × Nat × List Int) _ _ _ _ (fun _ _ h => h) (i + 1, A11, c11, (([] ++ s.take k) ++ [(i : Int)]) ++ s.drop k) ⟨⟨by omega, fin, h11⟩, by dsimp only; omega⟩ ⟨rfl, rfl, rfl, rfl, trivial⟩ (by repeat (first | exact .nil | refine Pick.cons (by repeat (first | exact .z | apply OutAt.s)) ?_)) (fun p hp => List.mem_cons_of_mem _ (List.mem_cons_of_mem _ (List.mem_cons_of_mem _ hp))))
          · skip
            refine Jl.lit1 rfl rfl rfl rfl rfl el24 zero3 rfl (fun g6 => ?_)
            refine Jl.jw ?_
            refine Jw.step (mkD [] [0]) 4 rfl (by decide +kernel) rfl rfl ?_
            refine Jl.appI (xs := []) (zs := s.take k) rfl rfl rfl rfl rfl rfl ap24 (by rw [List.length_take]; omega) (by repeat (first | exact memH | refine memT ?_)) (by repeat (first | exact .z | apply OutAt.s)) (by try simp only [List.length_append, List.length_cons, List.length_nil, List.length_take, List.length_drop]; omega) (fun A4 c4 h4 => ?_)
            refine Jl.jw ?_
            refine Jw.step (mkD [] [0]) 7 rfl (by decide +kernel) rfl rfl ?_
            refine Jl.app (dk := KI) (xs := [] ++ s.take k) (i : Int) (fun _ => False) rfl rfl rfl rfl rfl rfl ap24 (by repeat (first | exact .head _ | refine .tail _ ?_)) rfl (fun w => rfl) (fun u hu => by rw [List.mem_singleton.1 hu]; rfl) (by repeat (first | exact .z | apply OutAt.s)) (by try simp only [List.length_append, List.length_cons, List.length_nil, List.length_take, List.length_drop]; omega) (by try simp only [List.length_append, List.length_cons, List.length_nil, List.length_take, List.length_drop]; omega) (fun A7 c7 h7 => ?_)
            refine Jl.jw ?_
            refine Jw.step (mkD [] [0]) 11 rfl (by decide +kernel) rfl rfl ?_
            refine Jl.appI (xs := ([] ++ s.take k) ++ [(i : Int)]) (zs := s.drop k) rfl rfl rfl rfl rfl rfl ap24 (by rw [List.length_drop]; omega) (by repeat (first | exact memH | refine memT ?_)) (by repeat (first | exact .z | apply OutAt.s)) (by try simp only [List.length_append, List.length_cons, List.length_nil, List.length_take, List.length_drop]; omega) (fun A11 c11 h11 => ?_)
            refine Jl.jw ?_
            refine Jw.take 12 rfl (by decide +kernel) (by intro c a d v w h; cases d <;> exact h) (fun w => Y.asg rfl rfl) rfl rfl rfl ?_
            refine Jw.done (by decide +kernel) (Ej.go ?_ (fun _ _ h => h))
            repeat (first
                | (apply gateO; first
                  | refine Jl.yd (Y.mv rfl rfl) rfl rfl rfl ?_
                  | refine Jl.yd (Y.asg rfl rfl) rfl rfl rfl ?_
                  | refine Jl.yd (Y.ext rfl rfl rfl) rfl rfl rfl ?_
                  | refine Jl.yd (Y.pickT rfl rfl rfl) rfl rfl rfl ?_
                  | refine Jl.yd (Y.pickF rfl rfl rfl) rfl rfl rfl ?_
                  | refine Jl.off rfl rfl rfl ?_
                  | refine Jl.yd (Y.cmpF rfl rfl rfl rfl (by omega)) rfl rfl rfl ?_
                  | refine Jl.yd (Y.cmpT rfl rfl rfl rfl (by omega)) rfl rfl rfl ?_
                  | refine Jl.yd (Y.neqB rfl rfl rfl Try.underlying4) rfl rfl rfl ?_
                  | refine Jl.yd (Y.cmp rfl rfl rfl rfl) rfl rfl rfl ?_
                  | refine Jl.yd (Y.not rfl rfl) rfl rfl rfl ?_
                  | refine Jl.yd (Y.arithN rfl rfl rfl rfl (by omega)) rfl rfl rfl ?_
                  | refine Jl.yd (Y.arith64 rfl rfl rfl rfl) rfl rfl rfl ?_
                  | refine Jl.yd (Y.loadA rfl rfl agg26 (by repeat (first | exact .head _ | refine .tail _ ?_)) (by rfl)) rfl rfl rfl ?_
                  | refine Jl.yd (Y.lenS Try.underlying65 rfl rfl rfl) rfl rfl rfl ?_
                  | refine Jl.yd (Y.lenS Try.underlying24 rfl rfl rfl) rfl rfl rfl ?_
                  | refine Jl.splitG rfl rfl (fun h => ?_) (fun h => ?_))
                | (apply gateE; first
                  | refine Jl.nil (Ej.go ?_ (fun _ _ h => h))
                  | (refine Jl.nil (Ej.back (fun _ _ h => h) (by repeat (first | exact .refl | apply DropTo.tail)) ?_); repeat (first | exact trivial | refine ⟨rfl, ?_⟩)))
                | (apply gateC; first
                  | refine Cj.block rfl ?_
                  | refine Cj.condF rfl rfl (Cj.skip rfl (Ej.go ?_ (fun _ _ h => h)))
                  | (refine Cj.condF rfl rfl (Cj.skip rfl (Ej.back (fun _ _ h => h) (by repeat (first | exact .refl | apply DropTo.tail)) ?_)); repeat (first | exact trivial | refine ⟨rfl, ?_⟩))
                  | refine Cj.condF rfl rfl ?_
                  | refine Cj.condT rfl rfl ?_
                  | refine Cj.exit rfl (Ej.go ?_ (fun _ _ h => h))
                  | refine Cj.cond rfl rfl (fun h => ?_) (fun h => ?_)
                  | refine Cj.skip rfl (Ej.go ?_ (fun _ _ h => h))
                  | (refine Cj.skip rfl (Ej.back (fun _ _ h => h) (by repeat (first | exact .refl | apply DropTo.tail)) ?_); repeat (first | exact trivial | refine ⟨rfl, ?_⟩))
                  | refine Cj.seq rfl ?_
                  | refine Cj.region rfl ?_))
            refine Jl.nil (Ej.cutP (ι := Nat × Option Addr × Nat × List Int) _ _ _ _ (fun _ _ h => h) (i + 1, A11, c11, (([] ++ s.take k) ++ [(i : Int)]) ++ s.drop k) ⟨⟨by omega, fin, h11⟩, by dsimp only; omega⟩ ⟨rfl, rfl, rfl, rfl, trivial⟩ (by repeat (first | exact .nil | refine Pick.cons (by repeat (first | exact .z | apply OutAt.s)) ?_)) (fun p hp => List.mem_cons_of_mem _ (List.mem_cons_of_mem _ (List.mem_cons_of_mem _ hp))))
        · skip
          refine Jl.lit1 rfl rfl rfl rfl rfl el24 zero3 rfl (fun g6 => ?_)
          refine Jl.jw ?_
          refine Jw.step (mkD [] [0]) 0 rfl (by decide +kernel) rfl rfl ?_
          refine Jl.lit0 KI rfl rfl rfl rfl el24 (fun g0 => ?_)
          refine Jl.jw ?_
          refine Jw.step (mkD [] [0]) 4 rfl (by decide +kernel) rfl rfl ?_
          refine Jl.appI (xs := []) (zs := s.take k) rfl rfl rfl rfl rfl rfl ap24 (by rw [List.length_take]; omega) (by repeat (first | exact memH | refine memT ?_)) (by repeat (first | exact .z | apply OutAt.s)) (by try simp only [List.length_append, List.length_cons, List.length_nil, List.length_take, List.length_drop]; omega) (fun A4 c4 h4 => ?_)
          refine Jl.jw ?_
          refine Jw.step (mkD [] [0]) 7 rfl (by decide +kernel) rfl rfl ?_
          refine Jl.app (dk := KI) (xs := [] ++ s.take k) (i : Int) (fun _ => False) rfl rfl rfl rfl rfl rfl ap24 (by repeat (first | exact .head _ | refine .tail _ ?_)) rfl (fun w => rfl) (fun u hu => by rw [List.mem_singleton.1 hu]; rfl) (by repeat (first | exact .z | apply OutAt.s)) (by try simp only [List.length_append, List.length_cons, List.length_nil, List.length_take, List.length_drop]; omega) (by try simp only [List.length_append, List.length_cons, List.length_nil, List.length_take, List.length_drop]; omega) (fun A7 c7 h7 => ?_)
          refine Jl.jw ?_
          refine Jw.step (mkD [] [0]) 11 rfl (by decide +kernel) rfl rfl ?_
          refine Jl.appI (xs := ([] ++ s.take k) ++ [(i : Int)]) (zs := s.drop k) rfl rfl rfl rfl rfl rfl ap24 (by rw [List.length_drop]; omega) (by repeat (first | exact memH | refine memT ?_)) (by repeat (first | exact .z | apply OutAt.s)) (by try simp only [List.length_append, List.length_cons, List.length_nil, List.length_take, List.length_drop]; omega) (fun A11 c11 h11 => ?_)
          refine Jl.jw ?_
          refine Jw.take 12 rfl (by decide +kernel) (by intro c a d v w h; cases d <;> exact h) (fun w => Y.asg rfl rfl) rfl rfl rfl ?_
          refine Jw.done (by decide +kernel) (Ej.go ?_ (fun _ _ h => h))
          repeat (first
              | (apply gateO; first
                | refine Jl.yd (Y.mv rfl rfl) rfl rfl rfl ?_
                | refine Jl.yd (Y.asg rfl rfl) rfl rfl rfl ?_
                | refine Jl.yd (Y.ext rfl rfl rfl) rfl rfl rfl ?_
                | refine Jl.yd (Y.pickT rfl rfl rfl) rfl rfl rfl ?_
                | refine Jl.yd (Y.pickF rfl rfl rfl) rfl rfl rfl ?_
                | refine Jl.off rfl rfl rfl ?_
                | refine Jl.yd (Y.cmpF rfl rfl rfl rfl (by omega)) rfl rfl rfl ?_
                | refine Jl.yd (Y.cmpT rfl rfl rfl rfl (by omega)) rfl rfl rfl ?_
                | refine Jl.yd (Y.neqB rfl rfl rfl Try.underlying4) rfl rfl rfl ?_
                | refine Jl.yd (Y.cmp rfl rfl rfl rfl) rfl rfl rfl ?_
                | refine Jl.yd (Y.not rfl rfl) rfl rfl rfl ?_
                | refine Jl.yd (Y.arithN rfl rfl rfl rfl (by omega)) rfl rfl rfl ?_
                | refine Jl.yd (Y.arith64 rfl rfl rfl rfl) rfl rfl rfl ?_
                | refine Jl.yd (Y.loadA rfl rfl agg26 (by repeat (first | exact .head _ | refine .tail _ ?_)) (by rfl)) rfl rfl rfl ?_
                | refine Jl.yd (Y.lenS Try.underlying65 rfl rfl rfl) rfl rfl rfl ?_
                | refine Jl.yd (Y.lenS Try.underlying24 rfl rfl rfl) rfl rfl rfl ?_
                | refine Jl.splitG rfl rfl (fun h => ?_) (fun h => ?_))
              | (apply gateE; first
                | refine Jl.nil (Ej.go ?_ (fun _ _ h => h))
                | (refine Jl.nil (Ej.back (fun _ _ h => h) (by repeat (first | exact .refl | apply DropTo.tail)) ?_); repeat (first | exact trivial | refine ⟨rfl, ?_⟩)))
              | (apply gateC; first
                | refine Cj.block rfl ?_
                | refine Cj.condF rfl rfl (Cj.skip rfl (Ej.go ?_ (fun _ _ h => h)))
                | (refine Cj.condF rfl rfl (Cj.skip rfl (Ej.back (fun _ _ h => h) (by repeat (first | exact .refl | apply DropTo.tail)) ?_)); repeat (first | exact trivial | refine ⟨rfl, ?_⟩))
                | refine Cj.condF rfl rfl ?_
                | refine Cj.condT rfl rfl ?_
                | refine Cj.exit rfl (Ej.go ?_ (fun _ _ h => h))
                | refine Cj.cond rfl rfl (fun h => ?_) (fun h => ?_)
                | refine Cj.skip rfl (Ej.go ?_ (fun _ _ h => h))
                | (refine Cj.skip rfl (Ej.back (fun _ _ h => h) (by repeat (first | exact .refl | apply DropTo.tail)) ?_); repeat (first | exact trivial | refine ⟨rfl, ?_⟩))
                | refine Cj.seq rfl ?_
                | refine Cj.region rfl ?_))
          refine Jl.nil (Ej.cutP (ι := Nat × Option Addr × Nat × List Int) _ _ _ _ (fun _ _ h => h) (i + 1, A11, c11, (([] ++ s.take k) ++ [(i : Int)]) ++ s.drop k) ⟨⟨by omega, fin, h11⟩, by dsimp only; omega⟩ ⟨rfl, rfl, rfl, rfl, trivial⟩ (by repeat (first | exact .nil | refine Pick.cons (by repeat (first | exact .z | apply OutAt.s)) ?_)) (fun p hp => List.mem_cons_of_mem _ (List.mem_cons_of_mem _ (List.mem_cons_of_mem _ hp))))
  · obtain rfl : i = l.length := by omega
    subst hs
    repeat (first
    | (apply gateO; first
      | refine Jl.yd (Y.mv rfl rfl) rfl rfl rfl ?_
      | refine Jl.yd (Y.asg rfl rfl) rfl rfl rfl ?_
      | refine Jl.yd (Y.ext rfl rfl rfl) rfl rfl rfl ?_
      | refine Jl.yd (Y.pickT rfl rfl rfl) rfl rfl rfl ?_
      | refine Jl.yd (Y.pickF rfl rfl rfl) rfl rfl rfl ?_
      | refine Jl.off rfl rfl rfl ?_
      | refine Jl.yd (Y.cmpF rfl rfl rfl rfl (by omega)) rfl rfl rfl ?_
      | refine Jl.yd (Y.cmpT rfl rfl rfl rfl (by omega)) rfl rfl rfl ?_
      | refine Jl.yd (Y.neqB rfl rfl rfl Try.underlying4) rfl rfl rfl ?_
      | refine Jl.yd (Y.cmp rfl rfl rfl rfl) rfl rfl rfl ?_
      | refine Jl.yd (Y.not rfl rfl) rfl rfl rfl ?_
      | refine Jl.yd (Y.arithN rfl rfl rfl rfl (by omega)) rfl rfl rfl ?_
      | refine Jl.yd (Y.arith64 rfl rfl rfl rfl) rfl rfl rfl ?_
      | refine Jl.yd (Y.loadA rfl rfl agg26 (by repeat (first | exact .head _ | refine .tail _ ?_)) (by rfl)) rfl rfl rfl ?_
      | refine Jl.yd (Y.lenS Try.underlying65 rfl rfl rfl) rfl rfl rfl ?_
      | refine Jl.yd (Y.lenS Try.underlying24 rfl rfl rfl) rfl rfl rfl ?_
      | refine Jl.splitG rfl rfl (fun h => ?_) (fun h => ?_))
    | (apply gateE; first
      | refine Jl.nil (Ej.go ?_ (fun _ _ h => h))
      | (refine Jl.nil (Ej.back (fun _ _ h => h) (by repeat (first | exact .refl | apply DropTo.tail)) ?_); repeat (first | exact trivial | refine ⟨rfl, ?_⟩)))
    | (apply gateC; first
      | refine Cj.block rfl ?_
      | refine Cj.ret rfl (Ej.out1 (P := Try.prog) (fn := Try.f120) (R := Rr) (fun _ _ h => h) rfl rfl (fun w' hW => ⟨_, rfl, outI hW (by repeat (first | exact .nil | refine Pick.cons (by repeat (first | exact .z | apply OutAt.s)) ?_)), hW.below⟩))
      | refine Cj.condF rfl rfl (Cj.skip rfl (Ej.go ?_ (fun _ _ h => h)))
      | (refine Cj.condF rfl rfl (Cj.skip rfl (Ej.back (fun _ _ h => h) (by repeat (first | exact .refl | apply DropTo.tail)) ?_)); repeat (first | exact trivial | refine ⟨rfl, ?_⟩))
      | refine Cj.condF rfl rfl ?_
      | refine Cj.condT rfl rfl ?_
      | refine Cj.exit rfl (Ej.go ?_ (fun _ _ h => h))
      | refine Cj.cond rfl rfl (fun h => ?_) (fun h => ?_)
      | refine Cj.skip rfl (Ej.go ?_ (fun _ _ h => h))
      | (refine Cj.skip rfl (Ej.back (fun _ _ h => h) (by repeat (first | exact .refl | apply DropTo.tail)) ?_); repeat (first | exact trivial | refine ⟨rfl, ?_⟩))
      | refine Cj.seq rfl ?_
      | refine Cj.region rfl ?_))
set_option maxHeartbeats 4000000 in
/-- The reference's MendOrder at holes that are none. -/
theorem sNo {wd ht : Int} {cs : List Int} {l : List S76} (A0 : Option Addr) (c0 : Nat) (A1 : Option Addr) (c1 : Nat) (w : World) (hrC : Kd.C (Kd.int .i64) w A0 cs.length cs) (hc : cs.length ≤ c0) (hrH : Kd.C k76 w A1 l.length l) (hcl : l.length ≤ c1) (hlb : l.length ≤ 1048576) (hcb : cs.length ≤ 1048576) (hg : goodH wd ht cs l = false) : Calls Try.prog 53 #[.agg #[.int .i64 wd, .int .i64 ht, .slice A0 cs.length c0], .slice A1 l.length c1] w fun e w' => ∃ v, e = .returned (.tuple #[v, .bool false]) ∧ (Kd.int .i64).R 3 w' w.heap.size (fun _ => True) v [] ∧ Below w.heap.size w w' := by
  obtain ⟨kk, hk⟩ := (sHoles wd ht cs l hcb hlb).rounds
  rw [hg] at hk
  let Rr : Ending → World → Prop := fun e w' => ∃ v, e = .returned (.tuple #[v, .bool false]) ∧ (Kd.int .i64).R 3 w' w.heap.size (fun _ => True) v [] ∧ Below w.heap.size w w'
  refine enterW (args := [.agg #[.int .i64 wd, .int .i64 ht, .slice A0 cs.length c0], .slice A1 l.length c1]) [(fun W => Kd.C (Kd.int .i64) W A0 cs.length cs), (fun W => Kd.C k76 W A1 l.length l)] (fun p hp W hb => by
    rcases List.mem_cons.1 hp with rfl | hp
    · exact Kd.C_below hrC hb
    · rw [List.mem_singleton.1 hp]; exact Kd.C_below hrH hb) Try.func53 rfl rfl ?_
  show Cj Try.prog _ _ _ (bodyPost Try.prog Try.f53 Rr) _ _ _
  repeat (first
    | (apply gateO; first
      | refine Jl.yd (Y.mv rfl rfl) rfl rfl rfl ?_
      | refine Jl.yd (Y.asg rfl rfl) rfl rfl rfl ?_
      | refine Jl.yd (Y.ext rfl rfl rfl) rfl rfl rfl ?_
      | refine Jl.yd (Y.pickT rfl rfl rfl) rfl rfl rfl ?_
      | refine Jl.yd (Y.pickF rfl rfl rfl) rfl rfl rfl ?_
      | refine Jl.off rfl rfl rfl ?_
      | refine Jl.yd (Y.cmpF rfl rfl rfl rfl (by omega)) rfl rfl rfl ?_
      | refine Jl.yd (Y.cmpT rfl rfl rfl rfl (by omega)) rfl rfl rfl ?_
      | refine Jl.yd (Y.neqB rfl rfl rfl Try.underlying4) rfl rfl rfl ?_
      | refine Jl.yd (Y.cmp rfl rfl rfl rfl) rfl rfl rfl ?_
      | refine Jl.yd (Y.not rfl rfl) rfl rfl rfl ?_
      | refine Jl.yd (Y.arithN rfl rfl rfl rfl (by omega)) rfl rfl rfl ?_
      | refine Jl.yd (Y.arith64 rfl rfl rfl rfl) rfl rfl rfl ?_
      | refine Jl.yd (Y.loadA rfl rfl agg26 (by repeat (first | exact .head _ | refine .tail _ ?_)) (by rfl)) rfl rfl rfl ?_
      | refine Jl.yd (Y.lenS Try.underlying65 rfl rfl rfl) rfl rfl rfl ?_
      | refine Jl.yd (Y.lenS Try.underlying24 rfl rfl rfl) rfl rfl rfl ?_
      | refine Jl.box (zs := [.int .i64 wd, .int .i64 ht, .slice A0 cs.length c0]) rfl rfl rfl rfl rfl (by rfl) (fun gc => ?_)
      | refine Jl.call1 (v := .bool false) rfl rfl rfl rfl en110 rfl (fun w hW => by with_reducible exact spec_l23Good.calls kk wd ht A0 c0 cs A1 c1 l false w (hW.fact (p := (fun W => Kd.C (Kd.int .i64) W A0 cs.length cs)) (by repeat (first | exact memH | refine memT ?_))) hc (hW.fact (p := (fun W => Kd.C k76 W A1 l.length l)) (by repeat (first | exact memH | refine memT ?_))) hcl hk) ?_
      | refine Jl.lit0 KI rfl rfl rfl rfl el24 (fun g0 => ?_)
      | refine Jl.splitG rfl rfl (fun h => ?_) (fun h => ?_))
    | (apply gateE; first
      | refine Jl.nil (Ej.go ?_ (fun _ _ h => h))
      | (refine Jl.nil (Ej.back (fun _ _ h => h) (by repeat (first | exact .refl | apply DropTo.tail)) ?_); repeat (first | exact trivial | refine ⟨rfl, ?_⟩)))
    | (apply gateC; first
      | refine Cj.ret rfl (Ej.out2 (P := Try.prog) (fn := Try.f53) (R := Rr) (fun _ _ h => h) rfl rfl rfl (fun w' hW => ⟨_, rfl, outI hW (by repeat (first | exact .nil | refine Pick.cons (by repeat (first | exact .z | apply OutAt.s)) ?_)), hW.below⟩))
      | refine Cj.condF rfl rfl (Cj.skip rfl (Ej.go ?_ (fun _ _ h => h)))
      | (refine Cj.condF rfl rfl (Cj.skip rfl (Ej.back (fun _ _ h => h) (by repeat (first | exact .refl | apply DropTo.tail)) ?_)); repeat (first | exact trivial | refine ⟨rfl, ?_⟩))
      | refine Cj.condF rfl rfl ?_
      | refine Cj.condT rfl rfl ?_
      | refine Cj.exit rfl (Ej.go ?_ (fun _ _ h => h))
      | refine Cj.cond rfl rfl (fun h => ?_) (fun h => ?_)
      | refine Cj.skip rfl (Ej.go ?_ (fun _ _ h => h))
      | (refine Cj.skip rfl (Ej.back (fun _ _ h => h) (by repeat (first | exact .refl | apply DropTo.tail)) ?_); repeat (first | exact trivial | refine ⟨rfl, ?_⟩))
      | refine Cj.seq rfl ?_
      | refine Cj.region rfl ?_))
set_option maxHeartbeats 4000000 in
/-- The reference's MendOrder at holes. -/
theorem sYes {wd ht : Int} {cs : List Int} {l : List S76} (A0 : Option Addr) (c0 : Nat) (A1 : Option Addr) (c1 : Nat) (w : World) (hrC : Kd.C (Kd.int .i64) w A0 cs.length cs) (hc : cs.length ≤ c0) (hrH : Kd.C k76 w A1 l.length l) (hcl : l.length ≤ c1) (hlb : l.length ≤ 1048576) (hcb : cs.length ≤ 1048576) (hg : goodH wd ht cs l = true) : Calls Try.prog 53 #[.agg #[.int .i64 wd, .int .i64 ht, .slice A0 cs.length c0], .slice A1 l.length c1] w fun e w' => ∃ v, e = .returned (.tuple #[v, .bool true]) ∧ (Kd.int .i64).R 3 w' w.heap.size (fun _ => True) v (ordL wd cs l l.length) ∧ Below w.heap.size w w' := by
  obtain ⟨kk, hk⟩ := (sHoles wd ht cs l hcb hlb).rounds
  rw [hg] at hk
  let Rr : Ending → World → Prop := fun e w' => ∃ v, e = .returned (.tuple #[v, .bool true]) ∧ (Kd.int .i64).R 3 w' w.heap.size (fun _ => True) v (ordL wd cs l l.length) ∧ Below w.heap.size w w'
  refine enterW (args := [.agg #[.int .i64 wd, .int .i64 ht, .slice A0 cs.length c0], .slice A1 l.length c1]) [(fun W => Kd.C (Kd.int .i64) W A0 cs.length cs), (fun W => Kd.C k76 W A1 l.length l)] (fun p hp W hb => by
    rcases List.mem_cons.1 hp with rfl | hp
    · exact Kd.C_below hrC hb
    · rw [List.mem_singleton.1 hp]; exact Kd.C_below hrH hb) Try.func53 rfl rfl ?_
  show Cj Try.prog _ _ _ (bodyPost Try.prog Try.f53 Rr) _ _ _
  repeat (first
    | (apply gateO; first
      | refine Jl.yd (Y.mv rfl rfl) rfl rfl rfl ?_
      | refine Jl.yd (Y.asg rfl rfl) rfl rfl rfl ?_
      | refine Jl.yd (Y.ext rfl rfl rfl) rfl rfl rfl ?_
      | refine Jl.yd (Y.pickT rfl rfl rfl) rfl rfl rfl ?_
      | refine Jl.yd (Y.pickF rfl rfl rfl) rfl rfl rfl ?_
      | refine Jl.off rfl rfl rfl ?_
      | refine Jl.yd (Y.cmpF rfl rfl rfl rfl (by omega)) rfl rfl rfl ?_
      | refine Jl.yd (Y.cmpT rfl rfl rfl rfl (by omega)) rfl rfl rfl ?_
      | refine Jl.yd (Y.neqB rfl rfl rfl Try.underlying4) rfl rfl rfl ?_
      | refine Jl.yd (Y.cmp rfl rfl rfl rfl) rfl rfl rfl ?_
      | refine Jl.yd (Y.not rfl rfl) rfl rfl rfl ?_
      | refine Jl.yd (Y.arithN rfl rfl rfl rfl (by omega)) rfl rfl rfl ?_
      | refine Jl.yd (Y.arith64 rfl rfl rfl rfl) rfl rfl rfl ?_
      | refine Jl.yd (Y.loadA rfl rfl agg26 (by repeat (first | exact .head _ | refine .tail _ ?_)) (by rfl)) rfl rfl rfl ?_
      | refine Jl.yd (Y.lenS Try.underlying65 rfl rfl rfl) rfl rfl rfl ?_
      | refine Jl.yd (Y.lenS Try.underlying24 rfl rfl rfl) rfl rfl rfl ?_
      | refine Jl.box (zs := [.int .i64 wd, .int .i64 ht, .slice A0 cs.length c0]) rfl rfl rfl rfl rfl (by rfl) (fun gc => ?_)
      | refine Jl.call1 (v := .bool true) rfl rfl rfl rfl en110 rfl (fun w hW => by with_reducible exact spec_l23Good.calls kk wd ht A0 c0 cs A1 c1 l true w (hW.fact (p := (fun W => Kd.C (Kd.int .i64) W A0 cs.length cs)) (by repeat (first | exact memH | refine memT ?_))) hc (hW.fact (p := (fun W => Kd.C k76 W A1 l.length l)) (by repeat (first | exact memH | refine memT ?_))) hcl hk) ?_
      | refine Jl.callR 0 (fun v => v) rfl rfl rfl rfl en120 rfl (fun w hW => by with_reducible exact order_ A0 c0 A1 c1 w (hW.fact (p := (fun W => Kd.C (Kd.int .i64) W A0 cs.length cs)) (by repeat (first | exact memH | refine memT ?_))) hc (hW.fact (p := (fun W => Kd.C k76 W A1 l.length l)) (by repeat (first | exact memH | refine memT ?_))) hcl hg) (fun A9 c9 h9 => ?_)
      | refine Jl.splitG rfl rfl (fun h => ?_) (fun h => ?_))
    | (apply gateE; first
      | refine Jl.nil (Ej.go ?_ (fun _ _ h => h))
      | (refine Jl.nil (Ej.back (fun _ _ h => h) (by repeat (first | exact .refl | apply DropTo.tail)) ?_); repeat (first | exact trivial | refine ⟨rfl, ?_⟩)))
    | (apply gateC; first
      | refine Cj.ret rfl (Ej.out2 (P := Try.prog) (fn := Try.f53) (R := Rr) (fun _ _ h => h) rfl rfl rfl (fun w' hW => ⟨_, rfl, outI hW (by repeat (first | exact .nil | refine Pick.cons (by repeat (first | exact .z | apply OutAt.s)) ?_)), hW.below⟩))
      | refine Cj.condF rfl rfl (Cj.skip rfl (Ej.go ?_ (fun _ _ h => h)))
      | (refine Cj.condF rfl rfl (Cj.skip rfl (Ej.back (fun _ _ h => h) (by repeat (first | exact .refl | apply DropTo.tail)) ?_)); repeat (first | exact trivial | refine ⟨rfl, ?_⟩))
      | refine Cj.condF rfl rfl ?_
      | refine Cj.condT rfl rfl ?_
      | refine Cj.exit rfl (Ej.go ?_ (fun _ _ h => h))
      | refine Cj.cond rfl rfl (fun h => ?_) (fun h => ?_)
      | refine Cj.skip rfl (Ej.go ?_ (fun _ _ h => h))
      | (refine Cj.skip rfl (Ej.back (fun _ _ h => h) (by repeat (first | exact .refl | apply DropTo.tail)) ?_); repeat (first | exact trivial | refine ⟨rfl, ?_⟩))
      | refine Cj.seq rfl ?_
      | refine Cj.region rfl ?_))
end MO
end Go.Proofs.Ytkglpfdoefdhdaa.WK

namespace Go.Proofs.Ytkglpfdoefdhdaa.WK
open Go Go.RowKit Go.Proofs.Ytkglpfdoefdhdaa.Q Go.Proofs.Ytkglpfdoefdhdaa.M Go.Proofs.YtkglpfdoefdhdaaW.PrintWords Go.Proofs.YtkglpfdoefdhdaaW.SL
open Go.Proofs.YtkglpfdoefdhdaaW.Pl (nth nth_get)
open Go.Proofs.Ytkglpfdoefdhdaa.M.MN (mm lostL lostE)
set_option linter.unusedSimpArgs false
set_option linter.unusedVariables false
set_option maxRecDepth 100000
namespace MOL
open MO (ordL agg26 mixed)
theorem agg46 : AggT Try.prog 46 3 := ⟨by kernel_rfl⟩
theorem sz26 : SzT Try.prog 26 3 := ⟨by kernel_rfl⟩
theorem zero26 : ZeroT Try.prog 26 [.int .i64 0, .int .i64 0, .slice none 0 0] := ⟨by kernel_rfl⟩
theorem en27 : Ent Try.prog 27 := ⟨enters_of Try.func27 (by kernel_rfl) rfl⟩
theorem en40 : Ent Try.prog 40 := ⟨enters_of Try.func40 (by kernel_rfl) rfl⟩
theorem en29 : Ent Try.prog 29 := ⟨enters_of Try.func29 (by kernel_rfl) rfl⟩
theorem en42 : Ent Try.prog 42 := ⟨enters_of Try.func42 (by kernel_rfl) rfl⟩
theorem en53 : Ent Try.prog 53 := ⟨enters_of Try.func53 (by kernel_rfl) rfl⟩
theorem en54 : Ent Try.prog 54 := ⟨enters_of Try.func54 (by kernel_rfl) rfl⟩
theorem en37 : Ent Try.prog 37 := ⟨enters_of Try.func37 (by kernel_rfl) rfl⟩
theorem en33 : Ent Try.prog 33 := ⟨enters_of Try.func33 (by kernel_rfl) rfl⟩
theorem en45 : Ent Try.prog 45 := ⟨enters_of Try.func45 (by kernel_rfl) rfl⟩
theorem en34 : Ent Try.prog 34 := ⟨enters_of Try.func34 (by kernel_rfl) rfl⟩
theorem en46 : Ent Try.prog 46 := ⟨enters_of Try.func46 (by kernel_rfl) rfl⟩
theorem en38 : Ent Try.prog 38 := ⟨enters_of Try.func38 (by kernel_rfl) rfl⟩
theorem en39 : Ent Try.prog 39 := ⟨enters_of Try.func39 (by kernel_rfl) rfl⟩
theorem held_n {k n c m : Nat} {r : Int} {w : World} {A : Option Addr} (hn : n = (marks m).length) (hr : Kd.C (Kd.int .i64) w A (marks m).length (marks m)) (hc : (marks m).length ≤ c) (h : laws_heldIntS.f k (marks m) 1 = some r) : Calls Try.prog 39 #[.slice A n c, .int .i64 1] w fun e w' => e = .returned (.int .i64 r) ∧ Below w.heap.size w w' := by
  subst hn
  exact (laws_heldIntS.calls k A c (marks m) 1 r w hr hc h).mono (fun _ _ hh => ⟨hh.1, hh.2.below⟩)
theorem sM {wd ht : Int} {cs : List Int} {l : List S76} (A0 : Option Addr) (c0 : Nat) (A1 : Option Addr) (c1 : Nat) (w : World) (hrC : Kd.C (Kd.int .i64) w A0 cs.length cs) (hc : cs.length ≤ c0) (hrH : Kd.C k76 w A1 l.length l) (hcl : l.length ≤ c1) (hlb : l.length ≤ 1048576) (hcb : cs.length ≤ 1048576) : Calls Try.prog 53 #[.agg #[.int .i64 wd, .int .i64 ht, .slice A0 cs.length c0], .slice A1 l.length c1] w fun e w' => ∃ v, e = .returned (.tuple #[v, .bool (goodH wd ht cs l)]) ∧ (Kd.int .i64).R 3 w' w.heap.size (fun _ => True) v (if goodH wd ht cs l = true then ordL wd cs l l.length else []) ∧ Below w.heap.size w w' := by
  cases hg : goodH wd ht cs l with
  | false => rw [if_neg (by decide)]; exact MO.sNo A0 c0 A1 c1 w hrC hc hrH hcl hlb hcb hg
  | true => rw [if_pos rfl]; exact MO.sYes A0 c0 A1 c1 w hrC hc hrH hcl hlb hcb hg
theorem iM {wd ht : Int} {cs : List Int} {l : List S76} (A0 : Option Addr) (c0 : Nat) (A1 : Option Addr) (c1 : Nat) (w : World) (hrC : Kd.C (Kd.int .i64) w A0 cs.length cs) (hc : cs.length ≤ c0) (hrH : Kd.C k76 w A1 l.length l) (hcl : l.length ≤ c1) (hlb : l.length ≤ 1048576) : Calls Try.prog 54 #[.agg #[.int .i64 wd, .int .i64 ht, .slice A0 cs.length c0], .slice A1 l.length c1] w fun e w' => ∃ v, e = .returned (.tuple #[v, .bool (goodH wd ht cs l)]) ∧ (Kd.int .i64).R 3 w' w.heap.size (fun _ => True) v (if goodH wd ht cs l = true then ordL wd cs l l.length else []) ∧ Below w.heap.size w w' := by
  cases hg : goodH wd ht cs l with
  | false => rw [if_neg (by decide)]; exact MO.iNo A0 c0 A1 c1 w hrC hc hrH hcl hlb hg
  | true => rw [if_pos rfl]; exact MO.iYes A0 c0 A1 c1 w hrC hc hrH hcl hlb hg

set_option maxHeartbeats 2000000 in
theorem walkA (wd ht : Int) (cs : List Int) (l0 : List S73) (A0 : Option Addr) (c0 : Nat) (A1 : Option Addr) (c1 : Nat) (w : World) (hr0 : Kd.C (Kd.int .i64) w A0 cs.length cs) (hc0 : cs.length ≤ c0) (hr1 : Kd.C k73 w A1 l0.length l0) (hc1 : l0.length ≤ c1) (r : Int) (hz : laws_szChart.f wd ht cs 1048576 = some r) (hr : r < 0) : Calls Try.prog 8 #[.agg #[.int .i64 wd, .int .i64 ht, .slice A0 cs.length c0], .slice A1 l0.length c1] w fun e w' => e = .returned (.bool true) ∧ Below w.heap.size w w' := by
  refine enterW (args := [.agg #[.int .i64 wd, .int .i64 ht, .slice A0 cs.length c0], .slice A1 l0.length c1]) [(fun W => Kd.C (Kd.int .i64) W A0 cs.length cs), (fun W => Kd.C k73 W A1 l0.length l0)] (fun p hp W hb => by
    rcases List.mem_cons.1 hp with rfl | hp
    · exact Kd.C_below hr0 hb
    · rw [List.mem_singleton.1 hp]; exact Kd.C_below hr1 hb) Try.func8 rfl rfl ?_
  repeat (first
    | (apply gateO; first
      | refine Jl.yd (Y.mv rfl rfl) rfl rfl rfl ?_
      | refine Jl.yd (Y.asg rfl rfl) rfl rfl rfl ?_
      | refine Jl.yd (Y.ext rfl rfl rfl) rfl rfl rfl ?_
      | refine Jl.yd (Y.pickT rfl rfl rfl) rfl rfl rfl ?_
      | refine Jl.yd (Y.pickF rfl rfl rfl) rfl rfl rfl ?_
      | refine Jl.off rfl rfl rfl ?_
      | refine Jl.yd (Y.cmpF rfl rfl rfl rfl (by omega)) rfl rfl rfl ?_
      | refine Jl.yd (Y.cmpT rfl rfl rfl rfl (by omega)) rfl rfl rfl ?_
      | refine Jl.yd (Y.neqB rfl rfl rfl Try.underlying4) rfl rfl rfl ?_
      | refine Jl.yd (Y.cmp rfl rfl rfl rfl) rfl rfl rfl ?_
      | refine Jl.yd (Y.not rfl rfl) rfl rfl rfl ?_
      | refine Jl.yd (Y.arithN rfl rfl rfl rfl (by omega)) rfl rfl rfl ?_
      | refine Jl.yd (Y.arith64 rfl rfl rfl rfl) rfl rfl rfl ?_
      | refine Jl.yd (Y.loadA rfl rfl agg46 (by repeat (first | exact .head _ | refine .tail _ ?_)) (by rfl)) rfl rfl rfl ?_
      | refine Jl.yd (Y.loadA rfl rfl agg26 (by repeat (first | exact .head _ | refine .tail _ ?_)) (by rfl)) rfl rfl rfl ?_
      | refine Jl.alloc rfl rfl rfl rfl zero26 (fun g => ?_)
      | refine Jl.storeA rfl rfl rfl rfl rfl sz26 (by repeat (first | exact .z | apply SetAt.s)) (by rfl) (by rfl) ?_
      | refine Jl.call1 (v := .int .i64 r) rfl rfl rfl rfl en27 rfl (fun w hW => by with_reducible first | exact laws_szChart.calls wd ht _ _ cs 1048576 r w (hW.fact (p := (fun W => Kd.C (Kd.int .i64) W A0 cs.length cs)) (by repeat (first | exact memH | refine memT ?_))) hc0 hz | exact Calls.mono (laws_szChart.calls wd ht _ _ cs 1048576 r w (hW.fact (p := (fun W => Kd.C (Kd.int .i64) W A0 cs.length cs)) (by repeat (first | exact memH | refine memT ?_))) hc0 hz) (fun _ _ hh => ⟨hh.1, hh.2.below⟩)) ?_
      | refine Jl.box (zs := [.int .i64 wd, .int .i64 ht, .slice A0 cs.length c0]) rfl rfl rfl rfl rfl (by rfl) (fun g => ?_)
      | refine Jl.splitG rfl rfl (fun h => ?_) (fun h => ?_))
    | (apply gateE; first
      | refine Jl.nil (Ej.go ?_ (fun _ _ h => h))
      | (refine Jl.nil (Ej.back (fun _ _ h => h) (by repeat (first | exact .refl | apply DropTo.tail)) ?_); repeat (first | exact trivial | refine ⟨rfl, ?_⟩)))
    | (apply gateC; first
      | refine Cj.ret rfl (Ej.out1 (P := Try.prog) (fn := Try.f8) (R := fun e w' => e = .returned (.bool true) ∧ Below w.heap.size w w') (fun _ _ h => h) rfl rfl (fun w hW => ⟨rfl, hW.below⟩))
      | refine Cj.condF rfl rfl (Cj.skip rfl (Ej.go ?_ (fun _ _ h => h)))
      | (refine Cj.condF rfl rfl (Cj.skip rfl (Ej.back (fun _ _ h => h) (by repeat (first | exact .refl | apply DropTo.tail)) ?_)); repeat (first | exact trivial | refine ⟨rfl, ?_⟩))
      | refine Cj.condF rfl rfl ?_
      | refine Cj.condT rfl rfl ?_
      | refine Cj.exit rfl (Ej.go ?_ (fun _ _ h => h))
      | refine Cj.cond rfl rfl (fun h => ?_) (fun h => ?_)
      | refine Cj.skip rfl (Ej.go ?_ (fun _ _ h => h))
      | (refine Cj.skip rfl (Ej.back (fun _ _ h => h) (by repeat (first | exact .refl | apply DropTo.tail)) ?_); repeat (first | exact trivial | refine ⟨rfl, ?_⟩))
      | refine Cj.seq rfl ?_
      | refine Cj.region rfl ?_))

set_option maxHeartbeats 2000000 in
theorem walkB (wd ht : Int) (cs : List Int) (l0 : List S73) (A0 : Option Addr) (c0 : Nat) (A1 : Option Addr) (c1 : Nat) (w : World) (hr0 : Kd.C (Kd.int .i64) w A0 cs.length cs) (hc0 : cs.length ≤ c0) (hr1 : Kd.C k73 w A1 l0.length l0) (hc1 : l0.length ≤ c1) (r r2 : Int) (hz : laws_szChart.f wd ht cs 1048576 = some r) (hr : ¬ r < 0) (hz2 : laws_szHoleS.f l0 r = some r2) (hr2 : r2 < 0) : Calls Try.prog 8 #[.agg #[.int .i64 wd, .int .i64 ht, .slice A0 cs.length c0], .slice A1 l0.length c1] w fun e w' => e = .returned (.bool true) ∧ Below w.heap.size w w' := by
  refine enterW (args := [.agg #[.int .i64 wd, .int .i64 ht, .slice A0 cs.length c0], .slice A1 l0.length c1]) [(fun W => Kd.C (Kd.int .i64) W A0 cs.length cs), (fun W => Kd.C k73 W A1 l0.length l0)] (fun p hp W hb => by
    rcases List.mem_cons.1 hp with rfl | hp
    · exact Kd.C_below hr0 hb
    · rw [List.mem_singleton.1 hp]; exact Kd.C_below hr1 hb) Try.func8 rfl rfl ?_
  repeat (first
    | (apply gateO; first
      | refine Jl.yd (Y.mv rfl rfl) rfl rfl rfl ?_
      | refine Jl.yd (Y.asg rfl rfl) rfl rfl rfl ?_
      | refine Jl.yd (Y.ext rfl rfl rfl) rfl rfl rfl ?_
      | refine Jl.yd (Y.pickT rfl rfl rfl) rfl rfl rfl ?_
      | refine Jl.yd (Y.pickF rfl rfl rfl) rfl rfl rfl ?_
      | refine Jl.off rfl rfl rfl ?_
      | refine Jl.yd (Y.cmpF rfl rfl rfl rfl (by omega)) rfl rfl rfl ?_
      | refine Jl.yd (Y.cmpT rfl rfl rfl rfl (by omega)) rfl rfl rfl ?_
      | refine Jl.yd (Y.neqB rfl rfl rfl Try.underlying4) rfl rfl rfl ?_
      | refine Jl.yd (Y.cmp rfl rfl rfl rfl) rfl rfl rfl ?_
      | refine Jl.yd (Y.not rfl rfl) rfl rfl rfl ?_
      | refine Jl.yd (Y.arithN rfl rfl rfl rfl (by omega)) rfl rfl rfl ?_
      | refine Jl.yd (Y.arith64 rfl rfl rfl rfl) rfl rfl rfl ?_
      | refine Jl.yd (Y.loadA rfl rfl agg46 (by repeat (first | exact .head _ | refine .tail _ ?_)) (by rfl)) rfl rfl rfl ?_
      | refine Jl.yd (Y.loadA rfl rfl agg26 (by repeat (first | exact .head _ | refine .tail _ ?_)) (by rfl)) rfl rfl rfl ?_
      | refine Jl.alloc rfl rfl rfl rfl zero26 (fun g => ?_)
      | refine Jl.storeA rfl rfl rfl rfl rfl sz26 (by repeat (first | exact .z | apply SetAt.s)) (by rfl) (by rfl) ?_
      | refine Jl.call1 (v := .int .i64 r) rfl rfl rfl rfl en27 rfl (fun w hW => by with_reducible first | exact laws_szChart.calls wd ht _ _ cs 1048576 r w (hW.fact (p := (fun W => Kd.C (Kd.int .i64) W A0 cs.length cs)) (by repeat (first | exact memH | refine memT ?_))) hc0 hz | exact Calls.mono (laws_szChart.calls wd ht _ _ cs 1048576 r w (hW.fact (p := (fun W => Kd.C (Kd.int .i64) W A0 cs.length cs)) (by repeat (first | exact memH | refine memT ?_))) hc0 hz) (fun _ _ hh => ⟨hh.1, hh.2.below⟩)) ?_
      | refine Jl.call1 (v := .int .i64 r2) rfl rfl rfl rfl en40 rfl (fun w hW => by with_reducible first | exact laws_szHoleS.calls _ _ l0 r r2 w (hW.fact (p := (fun W => Kd.C k73 W A1 l0.length l0)) (by repeat (first | exact memH | refine memT ?_))) hc1 hz2 | exact Calls.mono (laws_szHoleS.calls _ _ l0 r r2 w (hW.fact (p := (fun W => Kd.C k73 W A1 l0.length l0)) (by repeat (first | exact memH | refine memT ?_))) hc1 hz2) (fun _ _ hh => ⟨hh.1, hh.2.below⟩)) ?_
      | refine Jl.box (zs := [.int .i64 wd, .int .i64 ht, .slice A0 cs.length c0]) rfl rfl rfl rfl rfl (by rfl) (fun g => ?_)
      | refine Jl.splitG rfl rfl (fun h => ?_) (fun h => ?_))
    | (apply gateE; first
      | refine Jl.nil (Ej.go ?_ (fun _ _ h => h))
      | (refine Jl.nil (Ej.back (fun _ _ h => h) (by repeat (first | exact .refl | apply DropTo.tail)) ?_); repeat (first | exact trivial | refine ⟨rfl, ?_⟩)))
    | (apply gateC; first
      | refine Cj.ret rfl (Ej.out1 (P := Try.prog) (fn := Try.f8) (R := fun e w' => e = .returned (.bool true) ∧ Below w.heap.size w w') (fun _ _ h => h) rfl rfl (fun w hW => ⟨rfl, hW.below⟩))
      | refine Cj.condF rfl rfl (Cj.skip rfl (Ej.go ?_ (fun _ _ h => h)))
      | (refine Cj.condF rfl rfl (Cj.skip rfl (Ej.back (fun _ _ h => h) (by repeat (first | exact .refl | apply DropTo.tail)) ?_)); repeat (first | exact trivial | refine ⟨rfl, ?_⟩))
      | refine Cj.condF rfl rfl ?_
      | refine Cj.condT rfl rfl ?_
      | refine Cj.exit rfl (Ej.go ?_ (fun _ _ h => h))
      | refine Cj.cond rfl rfl (fun h => ?_) (fun h => ?_)
      | refine Cj.skip rfl (Ej.go ?_ (fun _ _ h => h))
      | (refine Cj.skip rfl (Ej.back (fun _ _ h => h) (by repeat (first | exact .refl | apply DropTo.tail)) ?_); repeat (first | exact trivial | refine ⟨rfl, ?_⟩))
      | refine Cj.seq rfl ?_
      | refine Cj.region rfl ?_))

set_option maxHeartbeats 8000000 in
theorem walkC (wd ht : Int) (cs : List Int) (l0 : List S73) (A0 : Option Addr) (c0 : Nat) (A1 : Option Addr) (c1 : Nat) (w : World) (hr0 : Kd.C (Kd.int .i64) w A0 cs.length cs) (hc0 : cs.length ≤ c0) (hr1 : Kd.C k73 w A1 l0.length l0) (hc1 : l0.length ≤ c1) (r r2 : Int) (hz : laws_szChart.f wd ht cs 1048576 = some r) (hr : ¬ r < 0) (hz2 : laws_szHoleS.f l0 r = some r2) (hr2 : ¬ r2 < 0)
    (l l' : List S76) (cs' : List Int) (q : List Int) (qd : (if goodH wd ht cs l = true then ordL wd cs l l.length else []) = q) (hlb : l.length ≤ 1048576) (hcb : cs.length ≤ 1048576) (kt kh ke kc kq km kn kp kx : Nat) (r3 r4 : Int) (htc : laws_toChart.f kt wd ht cs = some (wd, ht, cs)) (hth : laws_toHoleS.f kh l0 = some l) (he : laws_eqIntS.f ke q q = some true) (hqc : laws_eqChart.f kc wd ht cs wd ht cs = some true) (hqh : laws_eqHoleS.f kq l l = some true)
    (hmc : laws_markChart.f km wd ht cs 1 = some (r3, cs')) (hmh : laws_markHoleS.f kn l r3 = some (r4, l')) (hr4 : ¬ r4 < 0) (hmq : laws_markIntS.f kp q 1 = some (((q.length + 1 : Nat) : Int), marks q.length)) (hhe : laws_heldIntS.f kx (marks q.length) 1 = some ((q.length + 1 : Nat) : Int)) : Calls Try.prog 8 #[.agg #[.int .i64 wd, .int .i64 ht, .slice A0 cs.length c0], .slice A1 l0.length c1] w fun e w' => e = .returned (.bool true) ∧ Below w.heap.size w w' := by
  have sM := @sM wd ht cs l
  have iM := @iM wd ht cs l
  rw [qd] at sM iM
  refine enterW (args := [.agg #[.int .i64 wd, .int .i64 ht, .slice A0 cs.length c0], .slice A1 l0.length c1]) [(fun W => Kd.C (Kd.int .i64) W A0 cs.length cs), (fun W => Kd.C k73 W A1 l0.length l0)] (fun p hp W hb => by
    rcases List.mem_cons.1 hp with rfl | hp
    · exact Kd.C_below hr0 hb
    · rw [List.mem_singleton.1 hp]; exact Kd.C_below hr1 hb) Try.func8 rfl rfl ?_
  repeat (first
    | (apply gateO; first
      | refine Jl.yd (Y.mv rfl rfl) rfl rfl rfl ?_
      | refine Jl.yd (Y.asg rfl rfl) rfl rfl rfl ?_
      | refine Jl.yd (Y.ext rfl rfl rfl) rfl rfl rfl ?_
      | refine Jl.yd (Y.pickT rfl rfl rfl) rfl rfl rfl ?_
      | refine Jl.yd (Y.pickF rfl rfl rfl) rfl rfl rfl ?_
      | refine Jl.off rfl rfl rfl ?_
      | refine Jl.yd (Y.cmpF rfl rfl rfl rfl (by omega)) rfl rfl rfl ?_
      | refine Jl.yd (Y.cmpT rfl rfl rfl rfl (by omega)) rfl rfl rfl ?_
      | refine Jl.yd (Y.neqB rfl rfl rfl Try.underlying4) rfl rfl rfl ?_
      | refine Jl.yd (Y.cmp rfl rfl rfl rfl) rfl rfl rfl ?_
      | refine Jl.yd (Y.not rfl rfl) rfl rfl rfl ?_
      | refine Jl.yd (Y.arithN rfl rfl rfl rfl (by omega)) rfl rfl rfl ?_
      | refine Jl.yd (Y.arith64 rfl rfl rfl rfl) rfl rfl rfl ?_
      | refine Jl.yd (Y.loadA rfl rfl agg46 (by repeat (first | exact .head _ | refine .tail _ ?_)) (by rfl)) rfl rfl rfl ?_
      | refine Jl.yd (Y.loadA rfl rfl agg26 (by repeat (first | exact .head _ | refine .tail _ ?_)) (by rfl)) rfl rfl rfl ?_
      | refine Jl.alloc rfl rfl rfl rfl zero26 (fun g => ?_)
      | refine Jl.storeA rfl rfl rfl rfl rfl sz26 (by repeat (first | exact .z | apply SetAt.s)) (by rfl) (by rfl) ?_
      | refine Jl.call1 (v := .int .i64 r) rfl rfl rfl rfl en27 rfl (fun w hW => by with_reducible first | exact laws_szChart.calls wd ht _ _ cs 1048576 r w (hW.fact (p := (fun W => Kd.C (Kd.int .i64) W A0 cs.length cs)) (by repeat (first | exact memH | refine memT ?_))) hc0 hz | exact Calls.mono (laws_szChart.calls wd ht _ _ cs 1048576 r w (hW.fact (p := (fun W => Kd.C (Kd.int .i64) W A0 cs.length cs)) (by repeat (first | exact memH | refine memT ?_))) hc0 hz) (fun _ _ hh => ⟨hh.1, hh.2.below⟩)) ?_
      | refine Jl.call1 (v := .int .i64 r2) rfl rfl rfl rfl en40 rfl (fun w hW => by with_reducible first | exact laws_szHoleS.calls _ _ l0 r r2 w (hW.fact (p := (fun W => Kd.C k73 W A1 l0.length l0)) (by repeat (first | exact memH | refine memT ?_))) hc1 hz2 | exact Calls.mono (laws_szHoleS.calls _ _ l0 r r2 w (hW.fact (p := (fun W => Kd.C k73 W A1 l0.length l0)) (by repeat (first | exact memH | refine memT ?_))) hc1 hz2) (fun _ _ hh => ⟨hh.1, hh.2.below⟩)) ?_
      | refine Jl.callR 0 (fun v => .agg #[.int .i64 wd, .int .i64 ht, v]) rfl rfl rfl rfl en29 rfl (fun w hW => by with_reducible exact laws_toChart.calls kt wd ht _ _ cs wd ht cs w (hW.fact (p := (fun W => Kd.C (Kd.int .i64) W A0 cs.length cs)) (by repeat (first | exact memH | refine memT ?_))) hc0 htc) (fun A c hl => ?_)
      | refine Jl.callR 0 (fun v => v) rfl rfl rfl rfl en42 rfl (fun w hW => by with_reducible exact laws_toHoleS.calls kh _ _ l0 l w (hW.fact (p := (fun W => Kd.C k73 W A1 l0.length l0)) (by repeat (first | exact memH | refine memT ?_))) hc1 hth) (fun A c hl => ?_)
      | refine Jl.callR 0 (fun v => .tuple #[v, .bool (goodH wd ht cs l)]) rfl rfl rfl rfl en53 rfl (fun w hW => by with_reducible exact sM _ _ _ _ w (hW.rowC (by repeat (first | exact memH | refine memT ?_))) (hW.rowCap (by repeat (first | exact memH | refine memT ?_))).2 (hW.rowC (by repeat (first | exact memH | refine memT ?_))) (hW.rowCap (by repeat (first | exact memH | refine memT ?_))).2 hlb hcb) (fun A c hl => ?_)
      | refine Jl.callR 0 (fun v => .tuple #[v, .bool (goodH wd ht cs l)]) rfl rfl rfl rfl en54 rfl (fun w hW => by with_reducible exact iM _ _ _ _ w (hW.rowC (by repeat (first | exact memH | refine memT ?_))) (hW.rowCap (by repeat (first | exact memH | refine memT ?_))).2 (hW.rowC (by repeat (first | exact memH | refine memT ?_))) (hW.rowCap (by repeat (first | exact memH | refine memT ?_))).2 hlb) (fun A c hl => ?_)
      | refine Jl.call1 (v := .bool true) rfl rfl rfl rfl en37 rfl (fun w hW => by with_reducible first | exact laws_eqIntS.calls ke _ _ q _ _ q true w (hW.rowC (by repeat (first | exact memH | refine memT ?_))) (hW.rowCap (by repeat (first | exact memH | refine memT ?_))).2 (hW.rowC (by repeat (first | exact memH | refine memT ?_))) (hW.rowCap (by repeat (first | exact memH | refine memT ?_))).2 he | exact Calls.mono (laws_eqIntS.calls ke _ _ q _ _ q true w (hW.rowC (by repeat (first | exact memH | refine memT ?_))) (hW.rowCap (by repeat (first | exact memH | refine memT ?_))).2 (hW.rowC (by repeat (first | exact memH | refine memT ?_))) (hW.rowCap (by repeat (first | exact memH | refine memT ?_))).2 he) (fun _ _ hh => ⟨hh.1, hh.2.below⟩)) ?_
      | refine Jl.call1 (v := .bool true) rfl rfl rfl rfl en33 rfl (fun w hW => by with_reducible first | exact laws_eqChart.calls kc wd ht _ _ cs wd ht _ _ cs true w (hW.rowC (by repeat (first | exact memH | refine memT ?_))) (hW.rowCap (by repeat (first | exact memH | refine memT ?_))).2 (hW.rowC (by repeat (first | exact memH | refine memT ?_))) (hW.rowCap (by repeat (first | exact memH | refine memT ?_))).2 hqc | exact Calls.mono (laws_eqChart.calls kc wd ht _ _ cs wd ht _ _ cs true w (hW.rowC (by repeat (first | exact memH | refine memT ?_))) (hW.rowCap (by repeat (first | exact memH | refine memT ?_))).2 (hW.rowC (by repeat (first | exact memH | refine memT ?_))) (hW.rowCap (by repeat (first | exact memH | refine memT ?_))).2 hqc) (fun _ _ hh => ⟨hh.1, hh.2.below⟩)) ?_
      | refine Jl.call1 (v := .bool true) rfl rfl rfl rfl en45 rfl (fun w hW => by with_reducible first | exact laws_eqHoleS.calls kq _ _ l _ _ l true w (hW.rowC (by repeat (first | exact memH | refine memT ?_))) (hW.rowCap (by repeat (first | exact memH | refine memT ?_))).2 (hW.rowC (by repeat (first | exact memH | refine memT ?_))) (hW.rowCap (by repeat (first | exact memH | refine memT ?_))).2 hqh | exact Calls.mono (laws_eqHoleS.calls kq _ _ l _ _ l true w (hW.rowC (by repeat (first | exact memH | refine memT ?_))) (hW.rowCap (by repeat (first | exact memH | refine memT ?_))).2 (hW.rowC (by repeat (first | exact memH | refine memT ?_))) (hW.rowCap (by repeat (first | exact memH | refine memT ?_))).2 hqh) (fun _ _ hh => ⟨hh.1, hh.2.below⟩)) ?_
      | refine Jl.callMc (r := .int .i64 r3) (fun v => .row (Kd.int .i64) 3 0 v cs) (fun v => .row (Kd.int .i64) 3 0 v cs') rfl rfl rfl rfl en34 rfl (by repeat (first | exact .z | apply SetAt.s)) (fun w A hW hA => of_kept hA (fun P0 w0 hB hR => laws_markChart.calls km wd ht P0 _ cs _ _ _ w0 w hB hR hmc)) ?_
      | refine Jl.callMv (v := .int .i64 r4) (fun v => .row k76 76 0 v l) (fun v => .row k76 76 0 v l') rfl rfl rfl rfl en46 rfl (by repeat (first | exact .z | apply SetAt.s)) (fun w A hW hA => of_kept hA (fun P0 w0 hB hR => laws_markHoleS.calls kn P0 _ l _ _ _ w0 w hB hR hmh)) ?_
      | refine Jl.callMv (v := .int .i64 ((q.length + 1 : Nat) : Int)) (fun v => .row (Kd.int .i64) 3 0 v q) (fun v => .row (Kd.int .i64) 3 0 v (marks q.length)) rfl rfl rfl rfl en38 rfl (by repeat (first | exact .z | apply SetAt.s)) (fun w A hW hA => of_kept hA (fun P0 w0 hB hR => laws_markIntS.calls kp P0 _ q _ _ _ w0 w hB hR hmq)) ?_
      | refine Jl.call1 (v := .int .i64 ((q.length + 1 : Nat) : Int)) rfl rfl rfl rfl en39 rfl (fun w hW => by with_reducible first | exact held_n (hW.rowCap (by repeat (first | exact memH | refine memT ?_))).1 (hW.rowC (by repeat (first | exact memH | refine memT ?_))) (hW.rowCap (by repeat (first | exact memH | refine memT ?_))).2 hhe | exact Calls.mono (held_n (hW.rowCap (by repeat (first | exact memH | refine memT ?_))).1 (hW.rowC (by repeat (first | exact memH | refine memT ?_))) (hW.rowCap (by repeat (first | exact memH | refine memT ?_))).2 hhe) (fun _ _ hh => ⟨hh.1, hh.2.below⟩)) ?_
      | refine Jl.box (zs := [.int .i64 wd, .int .i64 ht, .slice A0 cs.length c0]) rfl rfl rfl rfl rfl (by rfl) (fun g => ?_)
      | refine Jl.splitG rfl rfl (fun h => ?_) (fun h => ?_))
    | (apply gateE; first
      | refine Jl.nil (Ej.go ?_ (fun _ _ h => h))
      | (refine Jl.nil (Ej.back (fun _ _ h => h) (by repeat (first | exact .refl | apply DropTo.tail)) ?_); repeat (first | exact trivial | refine ⟨rfl, ?_⟩)))
    | (apply gateC; first
      | refine Cj.regionD rfl (mkD [0, 1, 4] []) [] [0, 1, 2, 3, 4] mixed (by decide +kernel) ?_
      | refine Cj.ret rfl (Ej.out1 (P := Try.prog) (fn := Try.f8) (R := fun e w' => e = .returned (.bool true) ∧ Below w.heap.size w w') (fun _ _ h => h) rfl rfl (fun w hW => ⟨rfl, hW.below⟩))
      | refine Cj.condF rfl rfl (Cj.skip rfl (Ej.go ?_ (fun _ _ h => h)))
      | (refine Cj.condF rfl rfl (Cj.skip rfl (Ej.back (fun _ _ h => h) (by repeat (first | exact .refl | apply DropTo.tail)) ?_)); repeat (first | exact trivial | refine ⟨rfl, ?_⟩))
      | refine Cj.condF rfl rfl ?_
      | refine Cj.condT rfl rfl ?_
      | refine Cj.exit rfl (Ej.go ?_ (fun _ _ h => h))
      | refine Cj.cond rfl rfl (fun h => ?_) (fun h => ?_)
      | refine Cj.skip rfl (Ej.go ?_ (fun _ _ h => h))
      | (refine Cj.skip rfl (Ej.back (fun _ _ h => h) (by repeat (first | exact .refl | apply DropTo.tail)) ?_); repeat (first | exact trivial | refine ⟨rfl, ?_⟩))
      | refine Cj.seq rfl ?_
      | refine Cj.region rfl ?_))

/-- The program's MendOrder returns what the reference's returns. -/
theorem full (wd ht : Int) (cs : List Int) (l0 : List S73) (A0 : Option Addr) (c0 : Nat) (A1 : Option Addr) (c1 : Nat) (w : World) (hr0 : Kd.C (Kd.int .i64) w A0 cs.length cs) (hc0 : cs.length ≤ c0) (hr1 : Kd.C k73 w A1 l0.length l0) (hc1 : l0.length ≤ c1) (hm0 : cs.length ≤ maxLen) (hm1 : l0.length ≤ maxLen) : Calls Try.prog 8 #[.agg #[.int .i64 wd, .int .i64 ht, .slice A0 cs.length c0], .slice A1 l0.length c1] w fun e w' => e = .returned (.bool true) ∧ Below w.heap.size w w' := by
  obtain ⟨r, hz, hr⟩ := szChart wd ht cs 1048576 hm0 (by omega)
  by_cases h1 : r < 0
  · exact walkA wd ht cs l0 A0 c0 A1 c1 w hr0 hc0 hr1 hc1 r hz h1
  obtain ⟨h2, h3, hcs⟩ := hr.resolve_left h1
  obtain ⟨r2, hz2, hr2⟩ := szHoles l0 r hm1 ⟨h2, h3⟩
  by_cases h4 : r2 < 0
  · exact walkB wd ht cs l0 A0 c0 A1 c1 w hr0 hc0 hr1 hc1 r r2 hz h1 hz2 h4
  obtain ⟨_, _, hls⟩ := hr2.resolve_left h4
  obtain ⟨kt, e1⟩ := (toChart wd ht cs hcs).rounds
  obtain ⟨kh, e2⟩ := (toHoles l0 hls).rounds
  have hl : (l0.map cvHole).length ≤ 1048576 := by simpa using hls
  generalize l0.map cvHole = l at e2 hl
  obtain ⟨q, qd⟩ : ∃ q, (if goodH wd ht cs l = true then ordL wd cs l l.length else []) = q := ⟨_, rfl⟩
  have hql : q.length ≤ 1048576 := by
    rw [← qd]
    split
    · rw [MO.ordL_len]; exact hl
    · exact Nat.zero_le _
  obtain ⟨ke, e5⟩ := (eqInts q hql).rounds
  obtain ⟨kc, e6⟩ := (eqChart wd ht cs hcs).rounds
  obtain ⟨kq, e7⟩ := (eqHoles l hl).rounds
  obtain ⟨p3, f1, hM⟩ := markChart wd ht cs hcs 1 (by omega)
  obtain ⟨km, e8⟩ := hM.rounds
  obtain ⟨l', hN⟩ := markHoles l hl (1 + cs.length) (by omega)
  obtain ⟨kn, e9⟩ := hN.rounds
  obtain ⟨kp, e10⟩ := (markInts q hql).rounds
  obtain ⟨kx, e11⟩ := (heldInts q.length hql).rounds
  rw [← f1] at e9
  exact walkC wd ht cs l0 A0 c0 A1 c1 w hr0 hc0 hr1 hc1 r r2 hz h1 hz2 h4 l l' p3.2 q qd hl hcs kt kh ke kc kq km kn kp kx p3.1 _ e1 e2 e5 e6 e7 e8 e9 (by omega) e10 e11
end MOL
end Go.Proofs.Ytkglpfdoefdhdaa.WK

namespace Go.Proofs.Ytkglpfdoefdhdaa.Wk
open Go Go.RowKit Go.Proofs.Ytkglpfdoefdhdaa.Q Go.Proofs.Ytkglpfdoefdhdaa.WK Go.Proofs.YtkglpfdoefdhdaaW.PrintWords
theorem FnExactMendOrder : laws_FnExactMendOrder.Goal := fun wd ht cs l0 A0 c0 A1 c1 w hr0 hc0 hr1 hc1 q0 q1 => MOL.full wd ht cs l0 A0 c0 A1 c1 w hr0 hc0 hr1 hc1 q0.2.2.1 q1.1
end Go.Proofs.Ytkglpfdoefdhdaa.Wk

namespace Go.Proofs.Ytkglpfdoefdhdaa.fnExactMendOrder
open Go.ChangeShapes Go.WideShapes Go.ChangeAt Go.RowKit Go.Proofs.Ytkglpfdoefdhdaa.Q Go.Proofs.YtkglpfdoefdhdaaW.Open Go.Proofs.YtkglpfdoefdhdaaW.PrintWords
set_option linter.unusedVariables false
theorem own : ownKnob Try.prog.godebug = none := by kernel_rfl
theorem laidOut : laidOutB Try.prog = true := by kernel_rfl
set_option maxRecDepth 100000 in
theorem lifted (os : Os) (started : os.Started) (H : Type) (enc : TypeId × Value → H) :
    ReturnsInHanded {} Try.checked os 8 .any (Rows.fnExactMendOrderSpec.pre6 enc Try.prog Try.f8 Rows.fnExactMendOrderRow.domain false) (Rows.fnExactMendOrderSpec.post enc Try.prog Try.f8 false true false false) := by
  refine returnsInHanded_of_change_sized (C := Try.checked) own started (by kernel_rfl) Try.func8
    (ChangeSpec.witness6 (enc := enc) (C := Try.checked) false ⟨#[], #[.agg #[.int .i64 0, .int .i64 0, .slice none 0 0], .slice none 0 0], []⟩ 8 (by kernel_rfl) (by kernel_rfl) (by kernel_rfl) (by kernel_rfl)) ?_
  intro W base args ds gs before hval0 hW hcnd hsz0 _
  have hval : ∀ (j : Nat) t v, Try.f8.params[j]? = some t → args[j]? = some v → Value.okWide Try.prog W .any base t v := hval0
  have hW' := hW
  obtain ⟨p, q, hA0, hV, rfl, hfz, hnd⟩ := hW
  have hA : DataW.TrodAll enc Try.prog W 0 (fun _ => true) true Try.f8.params.toList args.toList ds p := hA0
  rw [Try.params8] at hA hval
  obtain ⟨v0, vs0, d0, ds0, p0, q0, hargs, rfl, rfl, h0, r0⟩ := trodAll_cons hA
  obtain ⟨v1, vs1, d1, ds1, p1, q1, rfl, rfl, rfl, h1, r1⟩ := trodAll_cons r0
  obtain ⟨rfl, rfl, rfl⟩ := trodAll_nil r1
  obtain rfl : args = #[v0, v1] := by cases args; simp_all
  obtain ⟨rfl, rfl⟩ := trodVars_none hV
  have k0 := h0
  have lt0 : ∀ x ∈ p0, x.block < W.heap.size := by obtain ⟨m, hm⟩ := k0; exact DataW.trod_lt m _ _ _ hm
  obtain ⟨cs0, rfl, _⟩ := okWide_struct Try.underlying46 (hval 0 46 v0 rfl rfl)
  obtain ⟨fu0, hf0⟩ := h0
  obtain ⟨x0, hk0, q0⟩ := (opn46).out hf0
  have ho0 := k46_open hk0
  obtain ⟨A0_2, c0_2, ho0, hc0_2, hr0_2⟩ := ho0
  obtain rfl : cs0 = #[.int .i64 x0.f0, .int .i64 x0.f1, .slice A0_2 x0.f2.length c0_2] := by cases cs0; simpa [Value.cells] using ho0
  have k1 := h1
  have lt1 : ∀ x ∈ p1, x.block < W.heap.size := by obtain ⟨m, hm⟩ := k1; exact DataW.trod_lt m _ _ _ hm
  obtain ⟨a1, len1, cap1, rfl⟩ := okWide_slice Try.underlying60 (hval 1 60 v1 rfl rfl)
  obtain ⟨fu1, hf1⟩ := h1
  obtain ⟨x1, ⟨A1, c1, hk1, hc1, hr1⟩, q1⟩ := ((Opn.slice Try.underlying60 (n0 := 4) (by kernel_rfl) rfl opn73)).out hf1
  simp [Value.cells] at hk1
  obtain ⟨rfl, rfl, rfl⟩ := hk1
  refine (Go.Proofs.Ytkglpfdoefdhdaa.Wk.FnExactMendOrder x0.f0 x0.f1 x0.f2 x1 A0_2 c0_2 _ _ W hr0_2 hc0_2 hr1 hc1 q0 q1).mono fun e W' ⟨he, bel⟩ => ?_
  subst he
  exact ⟨_, rfl, _, _, _, [], _, [], hW', trodAll_mk1 (shut_bool Try.underlying4 _), (trodAll_cons_mk (Below.trod laidOut (by kernel_rfl) (of_decide_eq_true (by kernel_rfl)) k0 bel lt0) (trodAll_cons_mk (Below.trod laidOut (by kernel_rfl) (of_decide_eq_true (by kernel_rfl)) k1 bel lt1) trodAll_mk0)), rfl, bel.frame _, fun h => by cases h⟩
theorem over : Rows.fnExactMendOrderRow.holds Try.pinned (OpenSpec.ofChange Rows.fnExactMendOrderSpec) :=
  OpenClaim.holds_of_wide 8 Try.f8 rfl rfl rfl rfl rfl rfl rfl ⟨rfl, rfl, rfl, rfl, rfl⟩ rfl rfl rfl rfl rfl (by kernel_rfl) Try.func8 (by kernel_rfl)
    (of_decide_eq_true (by kernel_rfl)) (by unfold Func.isWrapper; first | (rw [if_pos (by decide +kernel)]; kernel_rfl) | (rw [if_neg (by decide +kernel)]; exact ⟨rfl, rfl⟩))
    (fun os started H enc _ => lifted os started H enc)
theorem proved : Rows.FnExactMendOrderSaid := over
end Go.Proofs.Ytkglpfdoefdhdaa.fnExactMendOrder
namespace Go.Proofs.Ytkglpfdoefdhdaa
/-- The row, under a short name, for the claim. -/
theorem fnExactMendOrder_holds : Rows.FnExactMendOrderSaid := fnExactMendOrder.proved
end Go.Proofs.Ytkglpfdoefdhdaa

#print axioms Go.Proofs.Ytkglpfdoefdhdaa.fnExactMendOrder_holds
